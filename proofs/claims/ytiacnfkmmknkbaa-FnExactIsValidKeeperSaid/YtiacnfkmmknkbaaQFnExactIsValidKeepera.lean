/- What the printed functions of FnExactIsValidKeeper come to, in plain terms; no condition beyond those in each theorem. -/
import Derived.Test.YtiacnfkmmknkbaaRFnExactIsValidKeeper
set_option linter.unusedVariables false
set_option linter.unusedSimpArgs false
namespace Go.Proofs.Ytiacnfkmmknkbaa.QFnExactIsValidKeeper
open Go.RowKit Go.Proofs.Ytiacnfkmmknkbaa.PFnExactIsValidKeeper Go.Proofs.YtiacnfkmmknkbaaW.PrintWords Go.Proofs.YtiacnfkmmknkbaaW.PrintLast Go.Proofs.Ytiacnfkmmknkbaa.RFnExactIsValidKeeper
/-! ### evkit: steps for printed functions -/
namespace EvKit
theorem w64 {n : Int} (h0 : -9223372036854775808 ≤ n) (h1 : n ≤ 9223372036854775807) : wrap64 n = n := by unfold wrap64; omega
section
variable {α β : Type}
theorem ret {x r : α} (h : x = r) : Ev (fun _ => some x) r := ⟨0, fun _ _ => by rw [h]⟩
theorem eqv {x : Option α} {r : α} (h : x = some r) : Ev (fun _ => x) r := ⟨0, fun _ _ => h⟩
theorem itt {c : Prop} [Decidable c] {a b : Nat → Option α} {r : α} (hc : c) (h : Ev a r) : Ev (fun k => if c then a k else b k) r := Ev.congr (fun _ => if_pos hc) h
theorem itf {c : Prop} [Decidable c] {a b : Nat → Option α} {r : α} (hc : ¬ c) (h : Ev b r) : Ev (fun k => if c then a k else b k) r := Ev.congr (fun _ => if_neg hc) h
theorem ite {c : Prop} [Decidable c] {a b : Nat → Option α} {r : α} (h : c → Ev a r) (h' : ¬ c → Ev b r) : Ev (fun k => if c then a k else b k) r := by
  by_cases hc : c
  · exact itt hc (h hc)
  · exact itf hc (h' hc)
theorem now {x : α} {f : Nat → α → Option β} {r : β} (h : Ev (fun n => f n x) r) : Ev (fun n => (some x).bind (f n)) r := h
theorem bnd {x : Option α} {a : α} {f : Nat → α → Option β} {r : β} (hx : x = some a) (h : Ev (fun n => f n a) r) : Ev (fun n => x.bind (f n)) r := Ev.bind (eqv hx) h
theorem ev_to {g : Nat → Option α} {r q : α} (h : Ev g r) (e : r = q) : Ev g q := e ▸ h
end
end EvKit

namespace ListKit
theorem set_at {α : Type} (p : List α) (x y : α) (q : List α) : (p ++ x :: q).set (p.length : Int).toNat y = p ++ y :: q := by
  rw [Int.toNat_natCast, List.set_append_right _ _ (Nat.le_refl _), Nat.sub_self, List.set_cons_zero]
theorem shift {α : Type} (p : List α) (y : α) (q : List α) : p ++ y :: q = (p ++ [y]) ++ q := by simp
theorem w64w (a b : Int) : wrap64 (wrap64 a + b) = wrap64 (a + b) := by unfold wrap64; omega
end ListKit

theorem impl_InRange.eq (x a b : Int) : impl_InRange.f x a b = some (decide (a ≤ x ∧ x ≤ b)) := by
  unfold impl_InRange.f
  by_cases h : a ≤ x
  · rw [if_pos h]; simp [h]
  · rw [if_neg h]; simp [h]

/-! ### areshares: a list of shares: one to seven, each in its bounds, no index twice -/
theorem spec_l1In.eq (x a b : Int) : spec_l1In.f x a b = some (decide (a ≤ x ∧ x ≤ b)) := by
  unfold spec_l1In.f
  by_cases h : x ≥ a
  · rw [if_pos h]; congr 1; exact decide_eq_decide.mpr ⟨fun z => ⟨h, z⟩, fun z => z.2⟩
  · rw [if_neg h]; congr 1; exact (decide_eq_false (by omega)).symm
def shareIn (s : S37) : Bool := decide (1 ≤ s.f0 ∧ s.f0 ≤ 7) && decide (0 ≤ s.f1 ∧ s.f1 ≤ 1018)
def shareNew (p : List S37) (s : S37) : Bool := p.all (fun t => !decide (t.f0 = s.f0))
def sharesFrom : List S37 → List S37 → Bool
  | _, [] => true
  | p, s :: l => shareIn s && (shareNew p s && sharesFrom (p ++ [s]) l)
def areShares (l : List S37) : Bool := decide (1 ≤ l.length ∧ l.length ≤ 7) && sharesFrom [] l
theorem impl_AreShares.all_eq : ∀ (l p : List S37) (seen : Nat → Bool), (∀ j : Int, 1 ≤ j → seen j.toNat = !(p.all (fun t => !decide (t.f0 = j)))) → (∀ t ∈ p, 1 ≤ t.f0) → impl_AreShares.all l seen = sharesFrom p l
  | [], _, _, _, _ => rfl
  | s :: l, p, seen, h, hp => by
    unfold impl_AreShares.all sharesFrom
    by_cases c : 1 ≤ s.f0 ∧ s.f0 ≤ 7 ∧ 0 ≤ s.f1 ∧ s.f1 ≤ 1018
    · have hs := h s.f0 c.1
      have hi : shareIn s = true := by simp [shareIn, c.1, c.2.1, c.2.2.1, c.2.2.2]
      rw [hi, Bool.true_and]
      by_cases d : seen s.f0.toNat = false
      · rw [if_pos ⟨c.1, c.2.1, c.2.2.1, c.2.2.2, d⟩, show shareNew p s = true from by rw [d] at hs; simpa [shareNew] using hs, Bool.true_and]
        refine impl_AreShares.all_eq l (p ++ [s]) _ (fun j hj => ?_) (fun t ht => ?_)
        · rw [h j hj, List.all_append, List.all_cons, List.all_nil]
          by_cases e : s.f0 = j
          · subst e; simp
          · rw [decide_eq_false (show ¬ j.toNat = s.f0.toNat by omega), decide_eq_false e]; simp
        · rcases List.mem_append.mp ht with z | z
          · exact hp t z
          · rw [List.mem_singleton.mp z]; exact c.1
      · rw [if_neg (fun z => d z.2.2.2.2), show shareNew p s = false from by rw [Bool.not_eq_false] at d; rw [d] at hs; simpa [shareNew] using hs, Bool.false_and]
    · rw [if_neg (fun z => c ⟨z.1, z.2.1, z.2.2.1, z.2.2.2.1⟩), show shareIn s = false from ?_, Bool.false_and]
      unfold shareIn
      by_cases e : 1 ≤ s.f0 ∧ s.f0 ≤ 7
      · rw [decide_eq_false (show ¬ (0 ≤ s.f1 ∧ s.f1 ≤ 1018) from fun z => c ⟨e.1, e.2, z.1, z.2⟩), Bool.and_false]
      · rw [decide_eq_false e, Bool.false_and]
theorem impl_AreShares.eq (l : List S37) : impl_AreShares.f l = some (areShares l) := by
  unfold impl_AreShares.f areShares
  by_cases c : 1 ≤ l.length ∧ l.length ≤ 7
  · rw [if_pos c, decide_eq_true c, Bool.true_and, impl_AreShares.all_eq l [] _ (fun _ _ => by simp) (fun _ h => by simp at h)]
  · rw [if_neg c, decide_eq_false c, Bool.false_and]
theorem spec_AreShares.ev_1 (p q : List S37) (s : S37) (r : Bool) (hn : (p ++ s :: q).length ≤ 9223372036854775806) (h : Ev (fun k => spec_AreShares.l0 k (p ++ s :: q) ((p.length : Int) + 1)) r) : ∀ (d j : Nat), p.length - j = d → j ≤ p.length → Ev (fun k => spec_AreShares.l1 k (p ++ s :: q) (p.length : Int) (j : Int)) ((p.drop j).all (fun t => !decide (t.f0 = s.f0)) && r) := by
  have hl : (p ++ s :: q).length = p.length + (q.length + 1) := by simp
  intro d
  induction d with
  | zero =>
    intro j hd hj
    refine Ev.step (fun k => by rw [spec_AreShares.l1]) ?_
    refine EvKit.itf (by omega) ?_
    rw [List.drop_eq_nil_of_le (by omega), List.all_nil, Bool.true_and, EvKit.w64 (by omega) (by omega)]
    exact h
  | succ d ih =>
    intro j hd hj
    refine Ev.step (fun k => by rw [spec_AreShares.l1]) ?_
    have hj' : j < p.length := by omega
    have e1 : rd_T37 (p ++ s :: q) (j : Int) = p[j] := by simp [rd_T37, List.getD, List.getElem?_append_left hj', hj']
    have e2 : rd_T37 (p ++ s :: q) (p.length : Int) = s := by simp [rd_T37, List.getD]
    refine EvKit.itt (by omega) (EvKit.itt (by omega) (EvKit.itt (by omega) (EvKit.itt (by omega) (EvKit.itt (by omega) ?_))))
    rw [e1, e2, List.drop_eq_getElem_cons hj', List.all_cons]
    refine EvKit.ite (fun hc => ?_) (fun hc => ?_)
    · rw [decide_eq_true hc]
      exact EvKit.ret rfl
    · rw [decide_eq_false hc, EvKit.w64 (n := (j : Int) + 1) (by omega) (by omega), Bool.not_false, Bool.true_and]
      exact ih (j + 1) (by omega) (by omega)
theorem spec_AreShares.ev_0 : ∀ (q p : List S37), (p ++ q).length ≤ 9223372036854775806 → Ev (fun k => spec_AreShares.l0 k (p ++ q) (p.length : Int)) (decide (1 ≤ (p ++ q).length ∧ (p ++ q).length ≤ 7) && sharesFrom p q)
  | [], p, hn => by
    rw [List.append_nil] at hn ⊢
    refine Ev.step (fun k => by rw [spec_AreShares.l0]) ?_
    refine EvKit.itf (by omega) ?_
    refine EvKit.bnd (spec_l1In.eq _ _ _) (EvKit.ret ?_)
    unfold sharesFrom
    rw [Bool.and_true]
    exact decide_eq_decide.mpr (by omega)
  | s :: q, p, hn => by
    have hl : (p ++ s :: q).length = p.length + (q.length + 1) := by simp
    have e2 : rd_T37 (p ++ s :: q) (p.length : Int) = s := by simp [rd_T37, List.getD]
    have ih := spec_AreShares.ev_0 q (p ++ [s]) (by simpa using hn)
    rw [show (p ++ [s]) ++ q = p ++ s :: q by simp, show (((p ++ [s]).length : Nat) : Int) = (p.length : Int) + 1 by simp] at ih
    refine Ev.step (fun k => by rw [spec_AreShares.l0]) ?_
    refine EvKit.itt (by omega) (EvKit.itt (by omega) ?_)
    rw [e2]
    refine EvKit.bnd (spec_l1In.eq _ _ _) ?_
    unfold sharesFrom shareIn
    refine EvKit.ite (fun hc => ?_) (fun hc => ?_)
    · rw [hc, Bool.true_and]
      refine EvKit.bnd (spec_l1In.eq _ _ _) ?_
      refine Ev.step (fun k => by rw [spec_AreShares.j1]) ?_
      refine EvKit.ite (fun hd => ?_) (fun hd => ?_)
      · rw [show decide (0 ≤ s.f1 ∧ s.f1 ≤ 1018) = false from Bool.eq_false_iff.mpr (fun z => by rw [z] at hd; cases hd), Bool.false_and, Bool.and_false]
        exact EvKit.ret rfl
      · rw [show decide (0 ≤ s.f1 ∧ s.f1 ≤ 1018) = true from Decidable.byContradiction (fun z => hd (by rw [Bool.eq_false_iff.mpr z]; rfl)), Bool.true_and]
        refine EvKit.ev_to (spec_AreShares.ev_1 p q s _ hn ih _ 0 rfl (by omega)) ?_
        unfold shareNew
        rw [List.drop_zero]
        cases List.all p _ <;> simp
    · rw [Bool.eq_false_iff.mpr hc]
      refine Ev.step (fun k => by rw [spec_AreShares.j1]) ?_
      refine EvKit.itt rfl (EvKit.ret ?_)
      simp
theorem spec_AreShares.ev (l : List S37) (hl : l.length ≤ 9223372036854775806) : Ev (fun k => spec_AreShares.f k l) (areShares l) := by
  unfold spec_AreShares.f
  exact spec_AreShares.ev_0 l [] (by simpa using hl)

/-! ### keeperok: a keeper in its bounds -/
def keeperOk (a0 a1 a2 a3 a4 : Int) : Bool := if areShares [⟨a0, a1⟩] = true then (if decide (0 ≤ a2 ∧ a2 ≤ 1000000) = true then (if decide (1 ≤ a4 ∧ a4 ≤ 10) = true then decide (0 ≤ a3 ∧ a3 ≤ a4) else false) else false) else false
theorem spec_IsValidKeeper.ev (a0 a1 a2 a3 a4 : Int) : Ev (fun k => spec_IsValidKeeper.f k a0 a1 a2 a3 a4) (keeperOk a0 a1 a2 a3 a4) := by
  unfold spec_IsValidKeeper.f keeperOk
  refine Ev.bind (spec_AreShares.ev _ (by simp)) ?_
  simp only [spec_l1In.eq, Option.bind_some]
  refine EvKit.eqv ?_
  repeat' split
  all_goals first | rfl | (exfalso; simp_all; done)
theorem impl_IsValidKeeper.eq (a0 a1 a2 a3 a4 : Int) : impl_IsValidKeeper.f a0 a1 a2 a3 a4 = some (keeperOk a0 a1 a2 a3 a4) := by
  unfold impl_IsValidKeeper.f keeperOk
  rw [impl_AreShares.eq, Option.bind_some]
  simp only [impl_InRange.eq, Option.bind_some]
  repeat' split
  all_goals rfl

end Go.Proofs.Ytiacnfkmmknkbaa.QFnExactIsValidKeeper
