/- What the printed functions of FnExactAskKeeper come to, in plain terms; no condition beyond those in each theorem. -/
import Derived.Test.YtjngmadmdkkcmaaRFnExactAskKeeper
set_option linter.unusedVariables false
set_option linter.unusedSimpArgs false
namespace Go.Proofs.Ytjngmadmdkkcmaa.QFnExactAskKeeper
open Go.RowKit Go.Proofs.Ytjngmadmdkkcmaa.PFnExactAskKeeper Go.Proofs.YtjngmadmdkkcmaaW.PrintWords Go.Proofs.YtjngmadmdkkcmaaW.PrintLast Go.Proofs.Ytjngmadmdkkcmaa.RFnExactAskKeeper
/-! ### evkit: steps for printed functions -/
namespace EvKit
theorem w64 {n : Int} (h0 : -9223372036854775808 ≤ n) (h1 : n ≤ 9223372036854775807) : wrap64 n = n := by unfold wrap64; omega
section
variable {α β : Type}
theorem ret {x r : α} (h : x = r) : Ev (fun _ => some x) r := ⟨0, fun _ _ => by rw [h]⟩
theorem eqv {x : Option α} {r : α} (h : x = some r) : Ev (fun _ => x) r := ⟨0, fun _ _ => h⟩
theorem itt {c : Prop} [Decidable c] {a b : Nat → Option α} {r : α} (hc : c) (h : Ev a r) : Ev (fun k => if c then a k else b k) r := Ev.congr (fun _ => if_pos hc) h
theorem itf {c : Prop} [Decidable c] {a b : Nat → Option α} {r : α} (hc : ¬ c) (h : Ev b r) : Ev (fun k => if c then a k else b k) r := Ev.congr (fun _ => if_neg hc) h
theorem ite {c : Prop} [Decidable c] {a b : Nat → Option α} {r : α} (h : c → Ev a r) (h' : ¬ c → Ev b r) : Ev (fun k => if c then a k else b k) r := by
  by_cases hc : c
  · exact itt hc (h hc)
  · exact itf hc (h' hc)
theorem now {x : α} {f : Nat → α → Option β} {r : β} (h : Ev (fun n => f n x) r) : Ev (fun n => (some x).bind (f n)) r := h
theorem bnd {x : Option α} {a : α} {f : Nat → α → Option β} {r : β} (hx : x = some a) (h : Ev (fun n => f n a) r) : Ev (fun n => x.bind (f n)) r := Ev.bind (eqv hx) h
theorem ev_to {g : Nat → Option α} {r q : α} (h : Ev g r) (e : r = q) : Ev g q := e ▸ h
end
end EvKit

theorem spec_l1In.eq (x a b : Int) : spec_l1In.f x a b = some (decide (a ≤ x ∧ x ≤ b)) := by
  unfold spec_l1In.f
  by_cases h : x ≥ a
  · rw [if_pos h]; congr 1; exact decide_eq_decide.mpr ⟨fun z => ⟨h, z⟩, fun z => z.2⟩
  · rw [if_neg h]; congr 1; exact (decide_eq_false (by omega)).symm

/-! ### arith: remainders as the program takes them -/
def modI (p q : Int) : Int := if 1 ≤ q ∧ q ≤ 1000000000000 then p % q else 0
theorem modI_pos {q : Int} (p : Int) (h : 1 ≤ q) (h' : q ≤ 1000000000000) : modI p q = p % q := if_pos ⟨h, h'⟩
theorem tmod_lo (p q : Int) (h : 1 ≤ q) : -q < Int.tmod p q := Int.lt_tmod_of_pos p (by omega)
theorem tmod_hi (p q : Int) (h : 1 ≤ q) : Int.tmod p q < q := Int.tmod_lt_of_pos p (by omega)
theorem tmod_emod (p q : Int) : Int.tmod p q % q = p % q := by
  rw [Int.tmod_def, Int.sub_mul_emod_self_left]
theorem tmod_neg_case (p q : Int) (h : 1 ≤ q) (hn : Int.tmod p q < 0) : Int.tmod p q + q = p % q := by
  have h1 := tmod_lo p q h
  rw [← tmod_emod p q, ← Int.add_emod_right, Int.emod_eq_of_lt (by omega) (by omega)]
theorem tmod_pos_case (p q : Int) (h : 1 ≤ q) (hn : 0 ≤ Int.tmod p q) : Int.tmod p q = p % q := by
  have h1 := tmod_hi p q h
  rw [← tmod_emod p q, Int.emod_eq_of_lt hn h1]
theorem tmod_twice (p q : Int) (h : 1 ≤ q) : Int.tmod (Int.tmod p q + q) q = p % q := by
  have h1 := tmod_lo p q h
  rw [Int.tmod_eq_emod_of_nonneg (by omega), Int.add_emod_right, tmod_emod]
theorem tmod_nn {p : Int} (q : Int) (h : 0 ≤ p) : Int.tmod p q = p % q := Int.tmod_eq_emod_of_nonneg h

theorem spec_Mod.eq (p q : Int) : spec_Mod.f p q = some (modI p q) := by
  unfold spec_Mod.f modI
  rw [spec_l1In.eq]
  simp only [Option.bind_some, decide_eq_true_eq]
  by_cases h : 1 ≤ q ∧ q ≤ 1000000000000
  · have h1 := tmod_lo p q h.1
    have h2 := tmod_hi p q h.1
    rw [if_pos h, if_pos h, if_neg (by omega), EvKit.w64 (by omega) (by omega), tmod_twice p q h.1]
  · rw [if_neg h, if_neg h]

theorem impl_Mod.ev (p q : Int) : Ev (fun k => impl_Mod.f k p q) (modI p q) := by
  unfold impl_Mod.f modI
  by_cases h : 1 ≤ q ∧ q ≤ 1000000000000
  · have h1 := tmod_lo p q h.1
    have h2 := tmod_hi p q h.1
    rw [if_pos h]
    refine EvKit.itf (by omega) (Ev.step (fun k => by rw [impl_Mod.j0]) (EvKit.itf (by simp; omega) (EvKit.itf (by omega) (EvKit.ite (fun hn => EvKit.ret ?_) (fun hn => EvKit.ret ?_)))))
    · rw [EvKit.w64 (by omega) (by omega), tmod_neg_case p q h.1 hn]
    · rw [tmod_pos_case p q h.1 (by omega)]
  · rw [if_neg h]
    refine EvKit.ite (fun hq => ?_) (fun hq => ?_)
    · refine Ev.step (fun k => by rw [impl_Mod.j0]) ?_
      exact EvKit.itt rfl (EvKit.ret rfl)
    · refine Ev.step (fun k => by rw [impl_Mod.j0]) ?_
      exact EvKit.itt (by simp; omega) (EvKit.ret rfl)

theorem impl_InRange.eq (x a b : Int) : impl_InRange.f x a b = some (decide (a ≤ x ∧ x ≤ b)) := by
  unfold impl_InRange.f
  by_cases h : a ≤ x
  · rw [if_pos h]; simp [h]
  · rw [if_neg h]; simp [h]

/-! ### group: powers in the small group -/
def gpowL (m : Int) : Nat → Int → Int → Int → Int
  | 0, _, _, r => r
  | n + 1, b, e, r => if 0 < e then gpowL m n (b * b % m) (e / 2) (if e % 2 = 1 then r * b % m else r) else r
theorem gpow_sq {m b : Int} (hm : 1 < m) (hm2 : m ≤ 3000000000) (h0 : 0 ≤ b) (h1 : b < m) (c : Int) (hc0 : 0 ≤ c) (hc1 : c < m) : wrap64 (c * b) = c * b ∧ Int.tmod (c * b) m = c * b % m ∧ 0 ≤ c * b % m ∧ c * b % m < m := by
  have h2 : 0 ≤ c * b := Int.mul_nonneg hc0 h0
  have h3 : c * b ≤ m * m := Int.mul_le_mul (by omega) (by omega) h0 (by omega)
  have h4 : m * m ≤ 3000000000 * 3000000000 := Int.mul_le_mul (by omega) (by omega) (by omega) (by omega)
  exact ⟨EvKit.w64 (by omega) (by omega), Int.tmod_eq_emod_of_nonneg h2, Int.emod_nonneg _ (by omega), Int.emod_lt_of_pos _ (by omega)⟩
theorem impl_power.ev_l (m : Int) (hm : 1 < m) (hm2 : m ≤ 3000000000) : ∀ (n : Nat) (b e r : Int), 0 ≤ b → b < m → 0 ≤ r → r < m → e < 2 ^ n → e ≤ 9223372036854775807 → Ev (fun k => impl_power.l0 k b e m r) (gpowL m n b e r)
  | 0, b, e, r, _, _, _, _, he, _ => by
    refine Ev.step (fun k => by rw [impl_power.l0]) ?_
    exact EvKit.itf (by simp at he; omega) (EvKit.ret rfl)
  | n + 1, b, e, r, hb0, hb1, hr0, hr1, he, he2 => by
    refine Ev.step (fun k => by rw [impl_power.l0]) ?_
    unfold gpowL
    by_cases c : 0 < e
    · rw [if_pos c]
      have hb := gpow_sq hm hm2 hb0 hb1 b hb0 hb1
      have hr := gpow_sq hm hm2 hb0 hb1 r hr0 hr1
      have e2 : Int.tmod e 2 = e % 2 := Int.tmod_eq_emod_of_nonneg (by omega)
      have e3 : wrap64 (Int.tdiv e 2) = e / 2 := by rw [Int.tdiv_eq_ediv_of_nonneg (by omega), EvKit.w64 (by omega) (by omega)]
      have e4 : e / 2 < 2 ^ n := by have : (2 : Int) ^ (n + 1) = 2 ^ n * 2 := Int.pow_succ ..; omega
      rw [e2, e3, hb.1, hb.2.1, hr.1, hr.2.1]
      refine EvKit.itt c (EvKit.ite (fun h => ?_) (fun h => ?_))
      · rw [if_pos h]
        exact EvKit.itf (by omega) (impl_power.ev_l m hm hm2 n _ _ _ hb.2.2.1 hb.2.2.2 hr.2.2.1 hr.2.2.2 e4 (by omega))
      · rw [if_neg h]
        exact EvKit.itf (by omega) (impl_power.ev_l m hm hm2 n _ _ _ hb.2.2.1 hb.2.2.2 hr0 hr1 e4 (by omega))
    · rw [if_neg c]
      exact EvKit.itf (by omega) (EvKit.ret rfl)
theorem impl_power.ev (b e m : Int) (n : Nat) (hm : 1 < m) (hm2 : m ≤ 3000000000) (hb : 0 ≤ b) (he : e < 2 ^ n) (he2 : e ≤ 9223372036854775807) : Ev (fun k => impl_power.f k b e m) (gpowL m n (b % m) e 1) := by
  unfold impl_power.f
  refine EvKit.itf (by omega) ?_
  rw [Int.tmod_eq_emod_of_nonneg hb, show (1 : Int) % m = 1 from Int.emod_eq_of_lt (by omega) hm]
  exact impl_power.ev_l m hm hm2 n _ _ _ (Int.emod_nonneg _ (by omega)) (Int.emod_lt_of_pos _ (by omega)) (by omega) (by omega) he he2
theorem and_one (x : Int) (h0 : 0 ≤ x) (h1 : x ≤ 9223372036854775807) : Go.bits .and .i64 x 1 = x % 2 :=
  Go.bits_mask .i64 63 (by decide) (fun n a b => by rw [Go.IntKind.wrap_i64]; omega) 1 (by decide) x h0 (by omega)
theorem spec_l4Pow.ev_l : ∀ (n : Nat) (b e r : Int), 0 ≤ b → b < 2039 → 0 ≤ r → r < 2039 → e < 2 ^ n → e ≤ 9223372036854775807 → Ev (fun k => spec_l4Pow.l0 k b e r) (gpowL 2039 n b e r)
  | 0, b, e, r, _, _, _, _, he, _ => by
    refine Ev.step (fun k => by rw [spec_l4Pow.l0]) ?_
    exact EvKit.itf (by simp at he; omega) (EvKit.ret rfl)
  | n + 1, b, e, r, hb0, hb1, hr0, hr1, he, he2 => by
    refine Ev.step (fun k => by rw [spec_l4Pow.l0]) ?_
    unfold gpowL
    by_cases c : 0 < e
    · rw [if_pos c]
      have hb := gpow_sq (m := 2039) (by omega) (by omega) hb0 hb1 b hb0 hb1
      have hr := gpow_sq (m := 2039) (by omega) (by omega) hb0 hb1 r hr0 hr1
      have e4 : e / 2 < 2 ^ n := by have : (2 : Int) ^ (n + 1) = 2 ^ n * 2 := Int.pow_succ ..; omega
      rw [and_one e (by omega) he2, hb.1, hb.2.1, hr.1, hr.2.1]
      refine EvKit.itt c (EvKit.ite (fun h => ?_) (fun h => ?_))
      · rw [if_pos h]
        exact spec_l4Pow.ev_l n _ _ _ hb.2.2.1 hb.2.2.2 hr.2.2.1 hr.2.2.2 e4 (by omega)
      · rw [if_neg h]
        exact spec_l4Pow.ev_l n _ _ _ hb.2.2.1 hb.2.2.2 hr0 hr1 e4 (by omega)
    · rw [if_neg c]
      exact EvKit.itf (by omega) (EvKit.ret rfl)
def gpow (b e : Int) : Int := gpowL 2039 11 b e 1
theorem spec_l4Pow.ev (b e : Int) (h0 : 0 ≤ b) (h1 : b < 2039) (he : e < 2048) : Ev (fun k => spec_l4Pow.f k b e) (gpow b e) := by
  unfold spec_l4Pow.f
  exact spec_l4Pow.ev_l 11 b e 1 h0 h1 (by omega) (by omega) he (by omega)
theorem impl_power.evG (b e : Int) (h0 : 0 ≤ b) (h1 : b < 2039) (he : e < 2048) : Ev (fun k => impl_power.f k b e 2039) (gpow b e) := by
  have h := impl_power.ev b e 2039 11 (by omega) (by omega) h0 he (by omega)
  rw [Int.emod_eq_of_lt h0 h1] at h
  exact h
def isGroup (x : Int) : Bool := if decide (1 ≤ x ∧ x ≤ 2038) = true then gpow x 1019 == 1 else false
theorem isGroup_in {x : Int} (h : isGroup x = true) : 1 ≤ x ∧ x ≤ 2038 := by
  unfold isGroup at h
  split at h
  · rename_i c; exact of_decide_eq_true c
  · cases h
theorem spec_IsGroupElement.ev (x : Int) : Ev (fun k => spec_IsGroupElement.f k x) (isGroup x) := by
  unfold spec_IsGroupElement.f isGroup
  refine EvKit.bnd (spec_l1In.eq _ _ _) (EvKit.ite (fun h => ?_) (fun h => ?_))
  · rw [if_pos h]
    have h' := of_decide_eq_true h
    exact Ev.bind (spec_l4Pow.ev x 1019 (by omega) (by omega) (by omega)) (EvKit.ret rfl)
  · rw [if_neg h]; exact EvKit.ret rfl
theorem impl_IsGroupElement.ev (x : Int) : Ev (fun k => impl_IsGroupElement.f k x) (isGroup x) := by
  unfold impl_IsGroupElement.f isGroup
  refine EvKit.bnd (impl_InRange.eq _ _ _) (EvKit.ite (fun h => ?_) (fun h => ?_))
  · rw [if_pos h]
    have h' := of_decide_eq_true h
    exact Ev.bind (impl_power.evG x 1019 (by omega) (by omega) (by omega)) (EvKit.ret rfl)
  · rw [if_neg h]; exact EvKit.ret rfl
def powGroup (b e : Int) : Int := if isGroup b = true then gpow b (e % 1019) else 0
theorem spec_PowGroup.ev (b e : Int) : Ev (fun k => spec_PowGroup.f k b e) (powGroup b e) := by
  unfold spec_PowGroup.f powGroup
  refine Ev.bind (spec_IsGroupElement.ev b) (EvKit.ite (fun h => ?_) (fun h => ?_))
  · rw [if_pos h]
    have h' := isGroup_in h
    refine EvKit.bnd (spec_Mod.eq _ _) ?_
    rw [modI_pos _ (by omega) (by omega)]
    exact Ev.bind (spec_l4Pow.ev b _ (by omega) (by omega) (by omega)) (EvKit.ret rfl)
  · rw [if_neg h]; exact EvKit.ret rfl
theorem impl_PowGroup.ev (b e : Int) : Ev (fun k => impl_PowGroup.f k b e) (powGroup b e) := by
  unfold impl_PowGroup.f powGroup
  refine Ev.bind (impl_IsGroupElement.ev b) (EvKit.ite (fun h => ?_) (fun h => ?_))
  · rw [if_pos h]
    have h' := isGroup_in h
    refine Ev.bind (impl_Mod.ev _ _) ?_
    rw [modI_pos _ (by omega) (by omega)]
    exact Ev.bind (impl_power.evG b _ (by omega) (by omega) (by omega)) (EvKit.ret rfl)
  · rw [if_neg h]; exact EvKit.ret rfl

namespace ListKit
theorem set_at {α : Type} (p : List α) (x y : α) (q : List α) : (p ++ x :: q).set (p.length : Int).toNat y = p ++ y :: q := by
  rw [Int.toNat_natCast, List.set_append_right _ _ (Nat.le_refl _), Nat.sub_self, List.set_cons_zero]
theorem shift {α : Type} (p : List α) (y : α) (q : List α) : p ++ y :: q = (p ++ [y]) ++ q := by simp
theorem w64w (a b : Int) : wrap64 (wrap64 a + b) = wrap64 (a + b) := by unfold wrap64; omega
end ListKit

/-! ### areshares: a list of shares: one to seven, each in its bounds, no index twice -/
def shareIn (s : S26) : Bool := decide (1 ≤ s.f0 ∧ s.f0 ≤ 7) && decide (0 ≤ s.f1 ∧ s.f1 ≤ 1018)
def shareNew (p : List S26) (s : S26) : Bool := p.all (fun t => !decide (t.f0 = s.f0))
def sharesFrom : List S26 → List S26 → Bool
  | _, [] => true
  | p, s :: l => shareIn s && (shareNew p s && sharesFrom (p ++ [s]) l)
def areShares (l : List S26) : Bool := decide (1 ≤ l.length ∧ l.length ≤ 7) && sharesFrom [] l
theorem impl_AreShares.all_eq : ∀ (l p : List S26) (seen : Nat → Bool), (∀ j : Int, 1 ≤ j → seen j.toNat = !(p.all (fun t => !decide (t.f0 = j)))) → (∀ t ∈ p, 1 ≤ t.f0) → impl_AreShares.all l seen = sharesFrom p l
  | [], _, _, _, _ => rfl
  | s :: l, p, seen, h, hp => by
    unfold impl_AreShares.all sharesFrom
    by_cases c : 1 ≤ s.f0 ∧ s.f0 ≤ 7 ∧ 0 ≤ s.f1 ∧ s.f1 ≤ 1018
    · have hs := h s.f0 c.1
      have hi : shareIn s = true := by simp [shareIn, c.1, c.2.1, c.2.2.1, c.2.2.2]
      rw [hi, Bool.true_and]
      by_cases d : seen s.f0.toNat = false
      · rw [if_pos ⟨c.1, c.2.1, c.2.2.1, c.2.2.2, d⟩, show shareNew p s = true from by rw [d] at hs; simpa [shareNew] using hs, Bool.true_and]
        refine impl_AreShares.all_eq l (p ++ [s]) _ (fun j hj => ?_) (fun t ht => ?_)
        · rw [h j hj, List.all_append, List.all_cons, List.all_nil]
          by_cases e : s.f0 = j
          · subst e; simp
          · rw [decide_eq_false (show ¬ j.toNat = s.f0.toNat by omega), decide_eq_false e]; simp
        · rcases List.mem_append.mp ht with z | z
          · exact hp t z
          · rw [List.mem_singleton.mp z]; exact c.1
      · rw [if_neg (fun z => d z.2.2.2.2), show shareNew p s = false from by rw [Bool.not_eq_false] at d; rw [d] at hs; simpa [shareNew] using hs, Bool.false_and]
    · rw [if_neg (fun z => c ⟨z.1, z.2.1, z.2.2.1, z.2.2.2.1⟩), show shareIn s = false from ?_, Bool.false_and]
      unfold shareIn
      by_cases e : 1 ≤ s.f0 ∧ s.f0 ≤ 7
      · rw [decide_eq_false (show ¬ (0 ≤ s.f1 ∧ s.f1 ≤ 1018) from fun z => c ⟨e.1, e.2, z.1, z.2⟩), Bool.and_false]
      · rw [decide_eq_false e, Bool.false_and]
theorem impl_AreShares.eq (l : List S26) : impl_AreShares.f l = some (areShares l) := by
  unfold impl_AreShares.f areShares
  by_cases c : 1 ≤ l.length ∧ l.length ≤ 7
  · rw [if_pos c, decide_eq_true c, Bool.true_and, impl_AreShares.all_eq l [] _ (fun _ _ => by simp) (fun _ h => by simp at h)]
  · rw [if_neg c, decide_eq_false c, Bool.false_and]
theorem spec_AreShares.ev_1 (p q : List S26) (s : S26) (r : Bool) (hn : (p ++ s :: q).length ≤ 9223372036854775806) (h : Ev (fun k => spec_AreShares.l0 k (p ++ s :: q) ((p.length : Int) + 1)) r) : ∀ (d j : Nat), p.length - j = d → j ≤ p.length → Ev (fun k => spec_AreShares.l1 k (p ++ s :: q) (p.length : Int) (j : Int)) ((p.drop j).all (fun t => !decide (t.f0 = s.f0)) && r) := by
  have hl : (p ++ s :: q).length = p.length + (q.length + 1) := by simp
  intro d
  induction d with
  | zero =>
    intro j hd hj
    refine Ev.step (fun k => by rw [spec_AreShares.l1]) ?_
    refine EvKit.itf (by omega) ?_
    rw [List.drop_eq_nil_of_le (by omega), List.all_nil, Bool.true_and, EvKit.w64 (by omega) (by omega)]
    exact h
  | succ d ih =>
    intro j hd hj
    refine Ev.step (fun k => by rw [spec_AreShares.l1]) ?_
    have hj' : j < p.length := by omega
    have e1 : rd_T26 (p ++ s :: q) (j : Int) = p[j] := by simp [rd_T26, List.getD, List.getElem?_append_left hj', hj']
    have e2 : rd_T26 (p ++ s :: q) (p.length : Int) = s := by simp [rd_T26, List.getD]
    refine EvKit.itt (by omega) (EvKit.itt (by omega) (EvKit.itt (by omega) (EvKit.itt (by omega) (EvKit.itt (by omega) ?_))))
    rw [e1, e2, List.drop_eq_getElem_cons hj', List.all_cons]
    refine EvKit.ite (fun hc => ?_) (fun hc => ?_)
    · rw [decide_eq_true hc]
      exact EvKit.ret rfl
    · rw [decide_eq_false hc, EvKit.w64 (n := (j : Int) + 1) (by omega) (by omega), Bool.not_false, Bool.true_and]
      exact ih (j + 1) (by omega) (by omega)
theorem spec_AreShares.ev_0 : ∀ (q p : List S26), (p ++ q).length ≤ 9223372036854775806 → Ev (fun k => spec_AreShares.l0 k (p ++ q) (p.length : Int)) (decide (1 ≤ (p ++ q).length ∧ (p ++ q).length ≤ 7) && sharesFrom p q)
  | [], p, hn => by
    rw [List.append_nil] at hn ⊢
    refine Ev.step (fun k => by rw [spec_AreShares.l0]) ?_
    refine EvKit.itf (by omega) ?_
    refine EvKit.bnd (spec_l1In.eq _ _ _) (EvKit.ret ?_)
    unfold sharesFrom
    rw [Bool.and_true]
    exact decide_eq_decide.mpr (by omega)
  | s :: q, p, hn => by
    have hl : (p ++ s :: q).length = p.length + (q.length + 1) := by simp
    have e2 : rd_T26 (p ++ s :: q) (p.length : Int) = s := by simp [rd_T26, List.getD]
    have ih := spec_AreShares.ev_0 q (p ++ [s]) (by simpa using hn)
    rw [show (p ++ [s]) ++ q = p ++ s :: q by simp, show (((p ++ [s]).length : Nat) : Int) = (p.length : Int) + 1 by simp] at ih
    refine Ev.step (fun k => by rw [spec_AreShares.l0]) ?_
    refine EvKit.itt (by omega) (EvKit.itt (by omega) ?_)
    rw [e2]
    refine EvKit.bnd (spec_l1In.eq _ _ _) ?_
    unfold sharesFrom shareIn
    refine EvKit.ite (fun hc => ?_) (fun hc => ?_)
    · rw [hc, Bool.true_and]
      refine EvKit.bnd (spec_l1In.eq _ _ _) ?_
      refine Ev.step (fun k => by rw [spec_AreShares.j1]) ?_
      refine EvKit.ite (fun hd => ?_) (fun hd => ?_)
      · rw [show decide (0 ≤ s.f1 ∧ s.f1 ≤ 1018) = false from Bool.eq_false_iff.mpr (fun z => by rw [z] at hd; cases hd), Bool.false_and, Bool.and_false]
        exact EvKit.ret rfl
      · rw [show decide (0 ≤ s.f1 ∧ s.f1 ≤ 1018) = true from Decidable.byContradiction (fun z => hd (by rw [Bool.eq_false_iff.mpr z]; rfl)), Bool.true_and]
        refine EvKit.ev_to (spec_AreShares.ev_1 p q s _ hn ih _ 0 rfl (by omega)) ?_
        unfold shareNew
        rw [List.drop_zero]
        cases List.all p _ <;> simp
    · rw [Bool.eq_false_iff.mpr hc]
      refine Ev.step (fun k => by rw [spec_AreShares.j1]) ?_
      refine EvKit.itt rfl (EvKit.ret ?_)
      simp
theorem spec_AreShares.ev (l : List S26) (hl : l.length ≤ 9223372036854775806) : Ev (fun k => spec_AreShares.f k l) (areShares l) := by
  unfold spec_AreShares.f
  exact spec_AreShares.ev_0 l [] (by simpa using hl)

/-! ### keeperok: a keeper in its bounds -/
def keeperOk (a0 a1 a2 a3 a4 : Int) : Bool := if areShares [⟨a0, a1⟩] = true then (if decide (0 ≤ a2 ∧ a2 ≤ 1000000) = true then (if decide (1 ≤ a4 ∧ a4 ≤ 10) = true then decide (0 ≤ a3 ∧ a3 ≤ a4) else false) else false) else false
theorem spec_IsValidKeeper.ev (a0 a1 a2 a3 a4 : Int) : Ev (fun k => spec_IsValidKeeper.f k a0 a1 a2 a3 a4) (keeperOk a0 a1 a2 a3 a4) := by
  unfold spec_IsValidKeeper.f keeperOk
  refine Ev.bind (spec_AreShares.ev _ (by simp)) ?_
  simp only [spec_l1In.eq, Option.bind_some]
  refine EvKit.eqv ?_
  repeat' split
  all_goals first | rfl | (exfalso; simp_all; done)
theorem impl_IsValidKeeper.eq (a0 a1 a2 a3 a4 : Int) : impl_IsValidKeeper.f a0 a1 a2 a3 a4 = some (keeperOk a0 a1 a2 a3 a4) := by
  unfold impl_IsValidKeeper.f keeperOk
  rw [impl_AreShares.eq, Option.bind_some]
  simp only [impl_InRange.eq, Option.bind_some]
  repeat' split
  all_goals rfl

/-! ### askkeeper -/
def evalShare (v x : Int) : Int := if isGroup x = true then (if x = 1 then 0 else (if decide (0 ≤ v ∧ v ≤ 1018) = true then powGroup x v else 0)) else 0
theorem spec_EvaluateShare.ev (i v x : Int) : Ev (fun k => spec_EvaluateShare.f k i v x) (evalShare v x) := by
  unfold spec_EvaluateShare.f evalShare
  refine Ev.bind (spec_IsGroupElement.ev x) (EvKit.ite (fun h => ?_) (fun h => ?_))
  · rw [if_pos h]
    refine EvKit.ite (fun h2 => ?_) (fun h2 => ?_)
    · rw [if_pos h2]; exact EvKit.ret rfl
    · rw [if_neg h2]
      refine EvKit.bnd (spec_l1In.eq _ _ _) (EvKit.ite (fun h3 => ?_) (fun h3 => ?_))
      · rw [if_pos h3]; exact Ev.bind (spec_PowGroup.ev x v) (EvKit.ret rfl)
      · rw [if_neg h3]; exact EvKit.ret rfl
  · rw [if_neg h]; exact EvKit.ret rfl
theorem impl_EvaluateShare.ev (i v x : Int) : Ev (fun k => impl_EvaluateShare.f k i v x) (evalShare v x) := by
  unfold impl_EvaluateShare.f evalShare
  refine Ev.bind (impl_IsGroupElement.ev x) (EvKit.ite (fun h => ?_) (fun h => ?_))
  · rw [if_pos h]
    refine EvKit.ite (fun h2 => ?_) (fun h2 => ?_)
    · rw [if_pos h2]; exact EvKit.ret rfl
    · rw [if_neg h2]
      refine EvKit.bnd (impl_InRange.eq _ _ _) (EvKit.ite (fun h3 => ?_) (fun h3 => ?_))
      · rw [if_pos h3]; exact Ev.bind (impl_PowGroup.ev x v) (EvKit.ret rfl)
      · rw [if_neg h3]; exact EvKit.ret rfl
  · rw [if_neg h]; exact EvKit.ret rfl
def askV (a b c d e x : Int) : Int × Int × Int × Int × Int × Int × Bool :=
  if keeperOk a b c d e = true then (if d = e then (a, b, c, d, e, 0, false) else (if isGroup x = true then (if x = 1 then (a, b, c, d, e, 0, false) else (a, b, c, wrap64 (d + 1), e, evalShare b x, true)) else (a, b, c, d, e, 0, false))) else (a, b, c, d, e, 0, false)
theorem spec_AskKeeper.ev (a b c d e x : Int) : Ev (fun k => spec_AskKeeper.f k a b c d e x) (askV a b c d e x) := by
  unfold spec_AskKeeper.f askV
  refine Ev.bind (spec_IsValidKeeper.ev a b c d e) (EvKit.ite (fun h => ?_) (fun h => ?_))
  · rw [if_pos h]
    refine EvKit.ite (fun h2 => ?_) (fun h2 => ?_)
    · rw [if_pos h2]; exact EvKit.ret rfl
    · rw [if_neg h2]
      refine Ev.bind (spec_IsGroupElement.ev x) (EvKit.ite (fun h3 => ?_) (fun h3 => ?_))
      · rw [if_pos h3]
        refine EvKit.ite (fun h4 => ?_) (fun h4 => ?_)
        · rw [if_pos h4]; exact EvKit.ret rfl
        · rw [if_neg h4]; exact Ev.bind (spec_EvaluateShare.ev a b x) (EvKit.ret rfl)
      · rw [if_neg h3]; exact EvKit.ret rfl
  · rw [if_neg h]; exact EvKit.ret rfl
theorem impl_AskKeeper.ev (a b c d e x : Int) : Ev (fun k => impl_AskKeeper.f k a b c d e x) (askV a b c d e x) := by
  unfold impl_AskKeeper.f askV
  refine EvKit.bnd (impl_IsValidKeeper.eq a b c d e) (EvKit.ite (fun h => ?_) (fun h => ?_))
  · rw [if_pos h]
    refine EvKit.ite (fun h2 => ?_) (fun h2 => ?_)
    · rw [if_pos h2]; exact EvKit.ret rfl
    · rw [if_neg h2]
      refine Ev.bind (impl_IsGroupElement.ev x) (EvKit.ite (fun h3 => ?_) (fun h3 => ?_))
      · rw [if_pos h3]
        refine EvKit.ite (fun h4 => ?_) (fun h4 => ?_)
        · rw [if_pos h4]; exact EvKit.ret rfl
        · rw [if_neg h4]; exact Ev.bind (impl_EvaluateShare.ev a b x) (EvKit.ret rfl)
      · rw [if_neg h3]; exact EvKit.ret rfl
  · rw [if_neg h]; exact EvKit.ret rfl

theorem laws_eqKeeper.refl (a0 a1 a2 a3 a4 : Int) : laws_eqKeeper.f a0 a1 a2 a3 a4 a0 a1 a2 a3 a4 = some true := by simp [laws_eqKeeper.f, laws_eqShare.f]

end Go.Proofs.Ytjngmadmdkkcmaa.QFnExactAskKeeper
