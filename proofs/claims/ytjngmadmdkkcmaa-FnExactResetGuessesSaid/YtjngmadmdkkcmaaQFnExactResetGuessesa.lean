/- What the printed functions of FnExactResetGuesses come to, in plain terms; no condition beyond those in each theorem. -/
import Derived.Test.YtjngmadmdkkcmaaRFnExactResetGuesses
set_option linter.unusedVariables false
set_option linter.unusedSimpArgs false
namespace Go.Proofs.Ytjngmadmdkkcmaa.QFnExactResetGuesses
open Go.RowKit Go.Proofs.Ytjngmadmdkkcmaa.PFnExactResetGuesses Go.Proofs.YtjngmadmdkkcmaaW.PrintWords Go.Proofs.YtjngmadmdkkcmaaW.PrintLast Go.Proofs.Ytjngmadmdkkcmaa.RFnExactResetGuesses
/-! ### evkit: steps for printed functions -/
namespace EvKit
theorem w64 {n : Int} (h0 : -9223372036854775808 ≤ n) (h1 : n ≤ 9223372036854775807) : wrap64 n = n := by unfold wrap64; omega
section
variable {α β : Type}
theorem ret {x r : α} (h : x = r) : Ev (fun _ => some x) r := ⟨0, fun _ _ => by rw [h]⟩
theorem eqv {x : Option α} {r : α} (h : x = some r) : Ev (fun _ => x) r := ⟨0, fun _ _ => h⟩
theorem itt {c : Prop} [Decidable c] {a b : Nat → Option α} {r : α} (hc : c) (h : Ev a r) : Ev (fun k => if c then a k else b k) r := Ev.congr (fun _ => if_pos hc) h
theorem itf {c : Prop} [Decidable c] {a b : Nat → Option α} {r : α} (hc : ¬ c) (h : Ev b r) : Ev (fun k => if c then a k else b k) r := Ev.congr (fun _ => if_neg hc) h
theorem ite {c : Prop} [Decidable c] {a b : Nat → Option α} {r : α} (h : c → Ev a r) (h' : ¬ c → Ev b r) : Ev (fun k => if c then a k else b k) r := by
  by_cases hc : c
  · exact itt hc (h hc)
  · exact itf hc (h' hc)
theorem now {x : α} {f : Nat → α → Option β} {r : β} (h : Ev (fun n => f n x) r) : Ev (fun n => (some x).bind (f n)) r := h
theorem bnd {x : Option α} {a : α} {f : Nat → α → Option β} {r : β} (hx : x = some a) (h : Ev (fun n => f n a) r) : Ev (fun n => x.bind (f n)) r := Ev.bind (eqv hx) h
theorem ev_to {g : Nat → Option α} {r q : α} (h : Ev g r) (e : r = q) : Ev g q := e ▸ h
end
end EvKit

namespace ListKit
theorem set_at {α : Type} (p : List α) (x y : α) (q : List α) : (p ++ x :: q).set (p.length : Int).toNat y = p ++ y :: q := by
  rw [Int.toNat_natCast, List.set_append_right _ _ (Nat.le_refl _), Nat.sub_self, List.set_cons_zero]
theorem shift {α : Type} (p : List α) (y : α) (q : List α) : p ++ y :: q = (p ++ [y]) ++ q := by simp
theorem w64w (a b : Int) : wrap64 (wrap64 a + b) = wrap64 (a + b) := by unfold wrap64; omega
end ListKit

theorem impl_InRange.eq (x a b : Int) : impl_InRange.f x a b = some (decide (a ≤ x ∧ x ≤ b)) := by
  unfold impl_InRange.f
  by_cases h : a ≤ x
  · rw [if_pos h]; simp [h]
  · rw [if_neg h]; simp [h]

theorem spec_l1In.eq (x a b : Int) : spec_l1In.f x a b = some (decide (a ≤ x ∧ x ≤ b)) := by
  unfold spec_l1In.f
  by_cases h : x ≥ a
  · rw [if_pos h]; congr 1; exact decide_eq_decide.mpr ⟨fun z => ⟨h, z⟩, fun z => z.2⟩
  · rw [if_neg h]; congr 1; exact (decide_eq_false (by omega)).symm

/-! ### areshares: a list of shares: one to seven, each in its bounds, no index twice -/
def shareIn (s : S26) : Bool := decide (1 ≤ s.f0 ∧ s.f0 ≤ 7) && decide (0 ≤ s.f1 ∧ s.f1 ≤ 1018)
def shareNew (p : List S26) (s : S26) : Bool := p.all (fun t => !decide (t.f0 = s.f0))
def sharesFrom : List S26 → List S26 → Bool
  | _, [] => true
  | p, s :: l => shareIn s && (shareNew p s && sharesFrom (p ++ [s]) l)
def areShares (l : List S26) : Bool := decide (1 ≤ l.length ∧ l.length ≤ 7) && sharesFrom [] l
theorem impl_AreShares.all_eq : ∀ (l p : List S26) (seen : Nat → Bool), (∀ j : Int, 1 ≤ j → seen j.toNat = !(p.all (fun t => !decide (t.f0 = j)))) → (∀ t ∈ p, 1 ≤ t.f0) → impl_AreShares.all l seen = sharesFrom p l
  | [], _, _, _, _ => rfl
  | s :: l, p, seen, h, hp => by
    unfold impl_AreShares.all sharesFrom
    by_cases c : 1 ≤ s.f0 ∧ s.f0 ≤ 7 ∧ 0 ≤ s.f1 ∧ s.f1 ≤ 1018
    · have hs := h s.f0 c.1
      have hi : shareIn s = true := by simp [shareIn, c.1, c.2.1, c.2.2.1, c.2.2.2]
      rw [hi, Bool.true_and]
      by_cases d : seen s.f0.toNat = false
      · rw [if_pos ⟨c.1, c.2.1, c.2.2.1, c.2.2.2, d⟩, show shareNew p s = true from by rw [d] at hs; simpa [shareNew] using hs, Bool.true_and]
        refine impl_AreShares.all_eq l (p ++ [s]) _ (fun j hj => ?_) (fun t ht => ?_)
        · rw [h j hj, List.all_append, List.all_cons, List.all_nil]
          by_cases e : s.f0 = j
          · subst e; simp
          · rw [decide_eq_false (show ¬ j.toNat = s.f0.toNat by omega), decide_eq_false e]; simp
        · rcases List.mem_append.mp ht with z | z
          · exact hp t z
          · rw [List.mem_singleton.mp z]; exact c.1
      · rw [if_neg (fun z => d z.2.2.2.2), show shareNew p s = false from by rw [Bool.not_eq_false] at d; rw [d] at hs; simpa [shareNew] using hs, Bool.false_and]
    · rw [if_neg (fun z => c ⟨z.1, z.2.1, z.2.2.1, z.2.2.2.1⟩), show shareIn s = false from ?_, Bool.false_and]
      unfold shareIn
      by_cases e : 1 ≤ s.f0 ∧ s.f0 ≤ 7
      · rw [decide_eq_false (show ¬ (0 ≤ s.f1 ∧ s.f1 ≤ 1018) from fun z => c ⟨e.1, e.2, z.1, z.2⟩), Bool.and_false]
      · rw [decide_eq_false e, Bool.false_and]
theorem impl_AreShares.eq (l : List S26) : impl_AreShares.f l = some (areShares l) := by
  unfold impl_AreShares.f areShares
  by_cases c : 1 ≤ l.length ∧ l.length ≤ 7
  · rw [if_pos c, decide_eq_true c, Bool.true_and, impl_AreShares.all_eq l [] _ (fun _ _ => by simp) (fun _ h => by simp at h)]
  · rw [if_neg c, decide_eq_false c, Bool.false_and]
theorem spec_AreShares.ev_1 (p q : List S26) (s : S26) (r : Bool) (hn : (p ++ s :: q).length ≤ 9223372036854775806) (h : Ev (fun k => spec_AreShares.l0 k (p ++ s :: q) ((p.length : Int) + 1)) r) : ∀ (d j : Nat), p.length - j = d → j ≤ p.length → Ev (fun k => spec_AreShares.l1 k (p ++ s :: q) (p.length : Int) (j : Int)) ((p.drop j).all (fun t => !decide (t.f0 = s.f0)) && r) := by
  have hl : (p ++ s :: q).length = p.length + (q.length + 1) := by simp
  intro d
  induction d with
  | zero =>
    intro j hd hj
    refine Ev.step (fun k => by rw [spec_AreShares.l1]) ?_
    refine EvKit.itf (by omega) ?_
    rw [List.drop_eq_nil_of_le (by omega), List.all_nil, Bool.true_and, EvKit.w64 (by omega) (by omega)]
    exact h
  | succ d ih =>
    intro j hd hj
    refine Ev.step (fun k => by rw [spec_AreShares.l1]) ?_
    have hj' : j < p.length := by omega
    have e1 : rd_T26 (p ++ s :: q) (j : Int) = p[j] := by simp [rd_T26, List.getD, List.getElem?_append_left hj', hj']
    have e2 : rd_T26 (p ++ s :: q) (p.length : Int) = s := by simp [rd_T26, List.getD]
    refine EvKit.itt (by omega) (EvKit.itt (by omega) (EvKit.itt (by omega) (EvKit.itt (by omega) (EvKit.itt (by omega) ?_))))
    rw [e1, e2, List.drop_eq_getElem_cons hj', List.all_cons]
    refine EvKit.ite (fun hc => ?_) (fun hc => ?_)
    · rw [decide_eq_true hc]
      exact EvKit.ret rfl
    · rw [decide_eq_false hc, EvKit.w64 (n := (j : Int) + 1) (by omega) (by omega), Bool.not_false, Bool.true_and]
      exact ih (j + 1) (by omega) (by omega)
theorem spec_AreShares.ev_0 : ∀ (q p : List S26), (p ++ q).length ≤ 9223372036854775806 → Ev (fun k => spec_AreShares.l0 k (p ++ q) (p.length : Int)) (decide (1 ≤ (p ++ q).length ∧ (p ++ q).length ≤ 7) && sharesFrom p q)
  | [], p, hn => by
    rw [List.append_nil] at hn ⊢
    refine Ev.step (fun k => by rw [spec_AreShares.l0]) ?_
    refine EvKit.itf (by omega) ?_
    refine EvKit.bnd (spec_l1In.eq _ _ _) (EvKit.ret ?_)
    unfold sharesFrom
    rw [Bool.and_true]
    exact decide_eq_decide.mpr (by omega)
  | s :: q, p, hn => by
    have hl : (p ++ s :: q).length = p.length + (q.length + 1) := by simp
    have e2 : rd_T26 (p ++ s :: q) (p.length : Int) = s := by simp [rd_T26, List.getD]
    have ih := spec_AreShares.ev_0 q (p ++ [s]) (by simpa using hn)
    rw [show (p ++ [s]) ++ q = p ++ s :: q by simp, show (((p ++ [s]).length : Nat) : Int) = (p.length : Int) + 1 by simp] at ih
    refine Ev.step (fun k => by rw [spec_AreShares.l0]) ?_
    refine EvKit.itt (by omega) (EvKit.itt (by omega) ?_)
    rw [e2]
    refine EvKit.bnd (spec_l1In.eq _ _ _) ?_
    unfold sharesFrom shareIn
    refine EvKit.ite (fun hc => ?_) (fun hc => ?_)
    · rw [hc, Bool.true_and]
      refine EvKit.bnd (spec_l1In.eq _ _ _) ?_
      refine Ev.step (fun k => by rw [spec_AreShares.j1]) ?_
      refine EvKit.ite (fun hd => ?_) (fun hd => ?_)
      · rw [show decide (0 ≤ s.f1 ∧ s.f1 ≤ 1018) = false from Bool.eq_false_iff.mpr (fun z => by rw [z] at hd; cases hd), Bool.false_and, Bool.and_false]
        exact EvKit.ret rfl
      · rw [show decide (0 ≤ s.f1 ∧ s.f1 ≤ 1018) = true from Decidable.byContradiction (fun z => hd (by rw [Bool.eq_false_iff.mpr z]; rfl)), Bool.true_and]
        refine EvKit.ev_to (spec_AreShares.ev_1 p q s _ hn ih _ 0 rfl (by omega)) ?_
        unfold shareNew
        rw [List.drop_zero]
        cases List.all p _ <;> simp
    · rw [Bool.eq_false_iff.mpr hc]
      refine Ev.step (fun k => by rw [spec_AreShares.j1]) ?_
      refine EvKit.itt rfl (EvKit.ret ?_)
      simp
theorem spec_AreShares.ev (l : List S26) (hl : l.length ≤ 9223372036854775806) : Ev (fun k => spec_AreShares.f k l) (areShares l) := by
  unfold spec_AreShares.f
  exact spec_AreShares.ev_0 l [] (by simpa using hl)

/-! ### keeperok: a keeper in its bounds -/
def keeperOk (a0 a1 a2 a3 a4 : Int) : Bool := if areShares [⟨a0, a1⟩] = true then (if decide (0 ≤ a2 ∧ a2 ≤ 1000000) = true then (if decide (1 ≤ a4 ∧ a4 ≤ 10) = true then decide (0 ≤ a3 ∧ a3 ≤ a4) else false) else false) else false
theorem spec_IsValidKeeper.ev (a0 a1 a2 a3 a4 : Int) : Ev (fun k => spec_IsValidKeeper.f k a0 a1 a2 a3 a4) (keeperOk a0 a1 a2 a3 a4) := by
  unfold spec_IsValidKeeper.f keeperOk
  refine Ev.bind (spec_AreShares.ev _ (by simp)) ?_
  simp only [spec_l1In.eq, Option.bind_some]
  refine EvKit.eqv ?_
  repeat' split
  all_goals first | rfl | (exfalso; simp_all; done)
theorem impl_IsValidKeeper.eq (a0 a1 a2 a3 a4 : Int) : impl_IsValidKeeper.f a0 a1 a2 a3 a4 = some (keeperOk a0 a1 a2 a3 a4) := by
  unfold impl_IsValidKeeper.f keeperOk
  rw [impl_AreShares.eq, Option.bind_some]
  simp only [impl_InRange.eq, Option.bind_some]
  repeat' split
  all_goals rfl

/-! ### resetguesses: a keeper's next epoch -/
def rstV (a b c d e : Int) (l : List S28) (m i v : Int) : Int × Int × Int × Int × Int × (List S28) × Int × Bool :=
  if keeperOk a b c d e = true then (if wrap64 ((wrap64 (c * 1000)) + d) < m then (a, b, c, d, e, l, m, false) else (if c = 1000000 then (a, b, c, d, e, l, m, false) else (if i = a then (if areShares [⟨i, v⟩] = true then (i, v, wrap64 (c + 1), 0, e, l, wrap64 ((wrap64 ((wrap64 (c + 1)) * 1000)) + 0), true) else (a, b, c, d, e, l, m, false)) else (a, b, c, d, e, l, m, false)))) else (a, b, c, d, e, l, m, false)
theorem rstV_list (a b c d e : Int) (l : List S28) (m i v : Int) : (rstV a b c d e l m i v).2.2.2.2.2.1 = l := by
  unfold rstV; repeat' split
  all_goals rfl
theorem spec_l24Copy.eqR (a b c d e : Int) (l : List S28) (m : Int) (hl : l.length ≤ 1048576) : spec_l24Copy.f a b c d e l m = some (a, b, c, d, e, l, m) := by
  unfold spec_l24Copy.f
  rw [Option.bind_some, if_pos (by simp; omega), List.nil_append]
theorem impl_copyHost.eqR (a b c d e : Int) (l : List S28) (m : Int) (hl : l.length ≤ 1048576) : impl_copyHost.f a b c d e l m = some (a, b, c, d, e, l, m) := by
  unfold impl_copyHost.f
  rw [Option.bind_some, if_pos (by simp; omega), List.nil_append]
theorem spec_ResetGuesses.ev (a b c d e : Int) (l : List S28) (m i v : Int) (hl : l.length ≤ 1048576) : Ev (fun k => spec_ResetGuesses.f k a b c d e l m i v) (rstV a b c d e l m i v) := by
  unfold spec_ResetGuesses.f rstV
  refine EvKit.bnd (spec_l24Copy.eqR a b c d e l m hl) (Ev.bind (spec_IsValidKeeper.ev a b c d e) (EvKit.ite (fun h1 => ?_) (fun h1 => ?_)))
  · rw [if_pos h1]
    refine EvKit.bnd (show spec_l24Mark.f a b c d e = some (wrap64 ((wrap64 (c * 1000)) + d)) from rfl) (EvKit.ite (fun h2 => ?_) (fun h2 => ?_))
    · rw [if_pos h2]; exact EvKit.ret rfl
    · rw [if_neg h2]
      refine EvKit.ite (fun h3 => ?_) (fun h3 => ?_)
      · rw [if_pos h3]; exact EvKit.ret rfl
      · rw [if_neg h3]
        refine EvKit.ite (fun h4 => ?_) (fun h4 => ?_)
        · rw [if_pos h4]
          refine Ev.bind (spec_AreShares.ev _ (by simp)) (EvKit.ite (fun h5 => ?_) (fun h5 => ?_))
          · rw [if_pos h5]
            exact EvKit.bnd (show spec_l24Mark.f i v (wrap64 (c + 1)) 0 e = some (wrap64 ((wrap64 ((wrap64 (c + 1)) * 1000)) + 0)) from rfl) (EvKit.ret rfl)
          · rw [if_neg h5]; exact EvKit.ret rfl
        · rw [if_neg h4]; exact EvKit.ret rfl
  · rw [if_neg h1]; exact EvKit.ret rfl
theorem impl_ResetGuesses.eq (a b c d e : Int) (l : List S28) (m i v : Int) (hl : l.length ≤ 1048576) : impl_ResetGuesses.f a b c d e l m i v = some (rstV a b c d e l m i v) := by
  unfold impl_ResetGuesses.f rstV
  rw [impl_copyHost.eqR a b c d e l m hl, Option.bind_some, impl_IsValidKeeper.eq, Option.bind_some]
  unfold impl_progress.f
  simp only [Option.bind_some, impl_AreShares.eq]
  repeat' split
  all_goals rfl

theorem laws_szKeeperS.eq (l : List S44) (v : Int) (h0 : 0 ≤ v) (h1 : v ≤ 1048576) (hl : l.length ≤ 9223372036854775807) : laws_szKeeperS.f l v = some (if v < (l.length : Int) then -1 else v - (l.length : Int)) := by
  unfold laws_szKeeperS.f
  rw [EvKit.w64 (by omega) (by omega)]
  by_cases h : v < (l.length : Int)
  · rw [if_pos (by omega), if_pos h]
  · rw [if_neg (by omega), if_neg h]

/-! ### toKeeperS: the same list -/
def toKeeperC (x : S44) : S28 := (⟨(⟨x.f0.f0, x.f0.f1⟩ : S26), x.f1, x.f2, x.f3⟩ : S28)
theorem rd_T44_at (p : List S44) (x : S44) (q : List S44) (i : Nat) (hi : i = p.length) : rd_T44 (p ++ x :: q) (i : Int) = x := by subst hi; simp [rd_T44]
theorem laws_toKeeperS.ev_l : ∀ (q p : List S44) (i : Nat), i = p.length → p.length + q.length ≤ 4611686018427387904 →
    Ev (fun k => laws_toKeeperS.l0 k (p ++ q) (p.map toKeeperC ++ List.replicate q.length z28) (i : Int)) ((p ++ q).map toKeeperC) := by
  intro q
  induction q with
  | nil =>
    intro p i hi h
    refine Ev.step (fun k => by rw [laws_toKeeperS.l0]) ?_
    exact EvKit.itf (by simp; omega) (EvKit.ret (by simp))
  | cons x q ih =>
    intro p i hi h
    simp only [List.length_cons] at h
    refine Ev.step (fun k => by rw [laws_toKeeperS.l0]) ?_
    refine EvKit.itt (by simp only [List.length_append, List.length_cons]; omega) (EvKit.itt (by omega) ?_)
    rw [rd_T44_at p x q i hi]
    simp only [laws_toKeeper.f, laws_toShare.f, Option.bind_some]
    refine EvKit.itt (by simp only [List.length_append, List.length_map, List.length_replicate, List.length_cons]; omega) ?_
    rw [EvKit.w64 (n := (i : Int) + 1) (by omega) (by omega)]
    have e : (p.map toKeeperC ++ List.replicate (x :: q).length z28).set (i : Int).toNat (toKeeperC x) = (p ++ [x]).map toKeeperC ++ List.replicate q.length z28 := by
      rw [List.length_cons, List.replicate_succ]
      have h2 := ListKit.set_at (p.map toKeeperC) z28 (toKeeperC x) (List.replicate q.length z28)
      rw [List.length_map, ← hi] at h2
      rw [h2]
      simp
    have e2 : p ++ x :: q = (p ++ [x]) ++ q := by simp
    refine EvKit.ev_to (Ev.congr (fun k => ?_) (ih (p ++ [x]) (i + 1) (by simp; omega) (by simp only [List.length_append, List.length_cons, List.length_nil]; omega))) (by rw [e2])
    rw [← e, ← e2]
    rfl
theorem laws_toKeeperS.ev (l : List S44) (hl : l.length ≤ 1048576) : Ev (fun k => laws_toKeeperS.f k l) (l.map toKeeperC) := by
  unfold laws_toKeeperS.f
  exact EvKit.itt (by omega) (EvKit.itt (by omega) (laws_toKeeperS.ev_l l [] 0 rfl (by simp; omega)))

theorem laws_szKeeperHost.eq (a b c d e : Int) (l : List S44) (m v : Int) (h0 : 0 ≤ v) (h1 : v ≤ 1048576) (hl : l.length ≤ 9223372036854775807) : laws_szKeeperHost.f a b c d e l m v = some (if v < (l.length : Int) then -1 else v - (l.length : Int)) := by
  unfold laws_szKeeperHost.f
  rw [laws_szKeeperS.eq l v h0 h1 hl]
  simp only [Option.bind_some]
  by_cases h : v < (l.length : Int)
  · rw [if_pos h]; rfl
  · rw [if_neg h, if_neg (by omega)]
theorem laws_toKeeperHost.ev (a b c d e : Int) (l : List S44) (m : Int) (hl : l.length ≤ 1048576) : Ev (fun k => laws_toKeeperHost.f k a b c d e l m) (a, b, c, d, e, l.map toKeeperC, m) := by
  unfold laws_toKeeperHost.f laws_toKeeper.f laws_toShare.f
  exact EvKit.now (EvKit.now (Ev.bind (laws_toKeeperS.ev l hl) (EvKit.ret rfl)))

theorem laws_eqKeeper.refl (a0 a1 a2 a3 a4 : Int) : laws_eqKeeper.f a0 a1 a2 a3 a4 a0 a1 a2 a3 a4 = some true := by simp [laws_eqKeeper.f, laws_eqShare.f]

/-! ### eqKeeperS: a list and itself -/
theorem laws_eqKeeperS.ev_l (l : List S28) (hl : l.length ≤ 9223372036854775806) : ∀ (d i : Nat), l.length - i = d → i ≤ l.length → Ev (fun k => laws_eqKeeperS.l0 k l l (i : Int)) true := by
  intro d
  induction d with
  | zero =>
    intro i hd hi
    refine Ev.step (fun k => by rw [laws_eqKeeperS.l0]) ?_
    exact EvKit.itf (by omega) (EvKit.ret rfl)
  | succ d ih =>
    intro i hd hi
    refine Ev.step (fun k => by rw [laws_eqKeeperS.l0]) ?_
    refine EvKit.itt (by omega) (EvKit.itt (by omega) (EvKit.itt (by omega) (EvKit.bnd (laws_eqKeeper.refl ..) (EvKit.itt rfl ?_))))
    rw [EvKit.w64 (n := (i : Int) + 1) (by omega) (by omega)]
    exact ih (i + 1) (by omega) (by omega)
theorem laws_eqKeeperS.ev (l : List S28) (hl : l.length ≤ 9223372036854775806) : Ev (fun k => laws_eqKeeperS.f k l l) true := by
  unfold laws_eqKeeperS.f
  exact EvKit.itt rfl (laws_eqKeeperS.ev_l l hl _ 0 rfl (by omega))

theorem laws_eqKeeperHost.ev (a b c d e : Int) (l : List S28) (m : Int) (hl : l.length ≤ 9223372036854775806) : Ev (fun k => laws_eqKeeperHost.f k a b c d e l m a b c d e l m) true := by
  unfold laws_eqKeeperHost.f
  exact EvKit.bnd (laws_eqKeeper.refl ..) (EvKit.itt rfl (Ev.bind (laws_eqKeeperS.ev l hl) (EvKit.itt rfl (EvKit.itt rfl (EvKit.ret rfl)))))

/-! ### markKeeperS and heldKeeperS -/
def markKeeperL : Int → List S28 → List S28
  | _, [] => []
  | v, _ :: l => (⟨(⟨v, v + 1⟩ : S26), v + 2, v + 3, v + 4⟩ : S28) :: markKeeperL (v + 5) l
theorem markKeeperL_len : ∀ (l : List S28) (v : Int), (markKeeperL v l).length = l.length
  | [], _ => rfl
  | _ :: l, v => by simp [markKeeperL, markKeeperL_len l]
theorem rd_T28_at (p : List S28) (x : S28) (q : List S28) : rd_T28 (p ++ x :: q) (p.length : Int) = x := by simp [rd_T28]
theorem laws_markKeeperS.ev_l : ∀ (q p : List S28) (v : Int) (i : Nat), i = p.length → 0 ≤ v → v + 5 * (q.length : Int) ≤ 4611686018427387904 → p.length + q.length ≤ 4611686018427387904 →
    Ev (fun k => laws_markKeeperS.l0 k (p ++ q) v (i : Int)) (v + 5 * (q.length : Int), p ++ markKeeperL v q) := by
  intro q
  induction q with
  | nil =>
    intro p v i hi h0 h1 h2
    subst hi
    refine Ev.step (fun k => by rw [laws_markKeeperS.l0]) ?_
    exact EvKit.itf (by simp) (EvKit.ret (by simp [markKeeperL]))
  | cons x q ih =>
    intro p v i hi h0 h1 h2
    subst hi
    simp only [List.length_cons] at h1 h2
    have e1 : wrap64 (v + 1) = v + 1 := EvKit.w64 (by omega) (by omega)
    have e2 : wrap64 (v + 2) = v + 2 := EvKit.w64 (by omega) (by omega)
    have e3 : wrap64 (v + 3) = v + 3 := EvKit.w64 (by omega) (by omega)
    have e4 : wrap64 (v + 4) = v + 4 := EvKit.w64 (by omega) (by omega)
    have e5 : wrap64 (v + 5) = v + 5 := EvKit.w64 (by omega) (by omega)
    have ep : wrap64 ((p.length : Int) + 1) = (p.length : Int) + 1 := EvKit.w64 (by omega) (by omega)
    refine Ev.step (fun k => by rw [laws_markKeeperS.l0]) ?_
    refine EvKit.itt (by simp only [List.length_append, List.length_cons]; omega) (EvKit.itt (by omega) ?_)
    simp only [Option.bind_some, ListKit.set_at, rd_T28_at, ListKit.w64w, Int.add_assoc, Int.reduceAdd, e1, e2, e3, e4, e5, ep]
    rw [ListKit.shift p _ q]
    refine EvKit.ev_to (ih (p ++ [_]) (v + 5) (p.length + 1) (by simp) (by omega) (by omega) (by simp only [List.length_append, List.length_cons, List.length_nil]; omega)) ?_
    simp only [markKeeperL, List.append_assoc, List.cons_append, List.nil_append, List.length_cons]
    refine Prod.ext ?_ rfl
    show v + 5 + 5 * (q.length : Int) = v + 5 * ((q.length + 1 : Nat) : Int)
    omega
theorem laws_markKeeperS.ev (l : List S28) (v : Int) (h0 : 0 ≤ v) (h1 : v + 5 * (l.length : Int) ≤ 4611686018427387904) : Ev (fun k => laws_markKeeperS.f k l v) (v + 5 * (l.length : Int), markKeeperL v l) := by
  unfold laws_markKeeperS.f
  exact laws_markKeeperS.ev_l l [] v 0 rfl h0 h1 (by simp; omega)

theorem laws_heldKeeperS.ev_l : ∀ (q p : List S28) (v : Int) (i : Nat), i = p.length → 0 ≤ v → v + 5 * (q.length : Int) ≤ 4611686018427387904 → p.length + q.length ≤ 4611686018427387904 →
    Ev (fun k => laws_heldKeeperS.l0 k (p ++ markKeeperL v q) v (i : Int)) (v + 5 * (q.length : Int)) := by
  intro q
  induction q with
  | nil =>
    intro p v i hi h0 h1 h2
    subst hi
    refine Ev.step (fun k => by rw [laws_heldKeeperS.l0]) ?_
    exact EvKit.itf (by simp [markKeeperL]) (EvKit.ret (by simp))
  | cons x q ih =>
    intro p v i hi h0 h1 h2
    subst hi
    simp only [List.length_cons] at h1 h2
    have e1 : wrap64 (v + 1) = v + 1 := EvKit.w64 (by omega) (by omega)
    have e2 : wrap64 (v + 2) = v + 2 := EvKit.w64 (by omega) (by omega)
    have e3 : wrap64 (v + 3) = v + 3 := EvKit.w64 (by omega) (by omega)
    have e4 : wrap64 (v + 4) = v + 4 := EvKit.w64 (by omega) (by omega)
    have e5 : wrap64 (v + 5) = v + 5 := EvKit.w64 (by omega) (by omega)
    have ep : wrap64 ((p.length : Int) + 1) = (p.length : Int) + 1 := EvKit.w64 (by omega) (by omega)
    simp only [markKeeperL]
    refine Ev.step (fun k => by rw [laws_heldKeeperS.l0]) ?_
    refine EvKit.itt (by simp only [List.length_append, List.length_cons]; omega) (EvKit.itt (by omega) ?_)
    simp only [rd_T28_at, ListKit.w64w, Int.add_assoc, Int.reduceAdd, e1, e2, e3, e4, e5, ep, bne_self_eq_false, Bool.false_eq_true, ↓reduceIte]
    rw [ListKit.shift p _ (markKeeperL (v + 5) q)]
    refine EvKit.ev_to (ih (p ++ [_]) (v + 5) (p.length + 1) (by simp) (by omega) (by omega) (by simp only [List.length_append, List.length_cons, List.length_nil]; omega)) ?_
    simp only [List.length_cons]
    omega
theorem laws_heldKeeperS.ev (l : List S28) (v : Int) (h0 : 0 ≤ v) (h1 : v + 5 * (l.length : Int) ≤ 4611686018427387904) : Ev (fun k => laws_heldKeeperS.f k (markKeeperL v l) v) (v + 5 * (l.length : Int)) := by
  unfold laws_heldKeeperS.f
  exact laws_heldKeeperS.ev_l l [] v 0 rfl h0 h1 (by simp; omega)

theorem laws_markKeeperHost.ev (a b c d e : Int) (l : List S28) (m v : Int) (h0 : 0 ≤ v) (h1 : v + 5 * (l.length : Int) ≤ 4611686018427387904) : Ev (fun k => laws_markKeeperHost.f k a b c d e l m v) (v + 5 * (l.length : Int), markKeeperL v l) := by
  unfold laws_markKeeperHost.f
  exact Ev.bind (laws_markKeeperS.ev l v h0 h1) (EvKit.ret rfl)
theorem laws_heldKeeperHost.ev (a b c d e : Int) (l : List S28) (m v : Int) (h0 : 0 ≤ v) (h1 : v + 5 * (l.length : Int) ≤ 4611686018427387904) : Ev (fun k => laws_heldKeeperHost.f k a b c d e (markKeeperL v l) m v) (v + 5 * (l.length : Int)) := by
  unfold laws_heldKeeperHost.f
  exact Ev.bind (laws_heldKeeperS.ev l v h0 h1) (EvKit.itf (by omega) (EvKit.ret rfl))

end Go.Proofs.Ytjngmadmdkkcmaa.QFnExactResetGuesses
