/- What the printed functions of FnExactEqualVaultHosts come to, in plain terms; no condition beyond those in each theorem. -/
import Derived.Test.YtaajgknmclpbiaaRFnExactEqualVaultHosts
set_option linter.unusedVariables false
set_option linter.unusedSimpArgs false
namespace Go.Proofs.Ytaajgknmclpbiaa.QFnExactEqualVaultHosts
open Go.RowKit Go.Proofs.Ytaajgknmclpbiaa.PFnExactEqualVaultHosts Go.Proofs.YtaajgknmclpbiaaW.PrintWords Go.Proofs.YtaajgknmclpbiaaW.PrintLast Go.Proofs.Ytaajgknmclpbiaa.RFnExactEqualVaultHosts
/-! ### evkit: steps for printed functions -/
namespace EvKit
theorem w64 {n : Int} (h0 : -9223372036854775808 ≤ n) (h1 : n ≤ 9223372036854775807) : wrap64 n = n := by unfold wrap64; omega
section
variable {α β : Type}
theorem ret {x r : α} (h : x = r) : Ev (fun _ => some x) r := ⟨0, fun _ _ => by rw [h]⟩
theorem eqv {x : Option α} {r : α} (h : x = some r) : Ev (fun _ => x) r := ⟨0, fun _ _ => h⟩
theorem itt {c : Prop} [Decidable c] {a b : Nat → Option α} {r : α} (hc : c) (h : Ev a r) : Ev (fun k => if c then a k else b k) r := Ev.congr (fun _ => if_pos hc) h
theorem itf {c : Prop} [Decidable c] {a b : Nat → Option α} {r : α} (hc : ¬ c) (h : Ev b r) : Ev (fun k => if c then a k else b k) r := Ev.congr (fun _ => if_neg hc) h
theorem ite {c : Prop} [Decidable c] {a b : Nat → Option α} {r : α} (h : c → Ev a r) (h' : ¬ c → Ev b r) : Ev (fun k => if c then a k else b k) r := by
  by_cases hc : c
  · exact itt hc (h hc)
  · exact itf hc (h' hc)
theorem now {x : α} {f : Nat → α → Option β} {r : β} (h : Ev (fun n => f n x) r) : Ev (fun n => (some x).bind (f n)) r := h
theorem bnd {x : Option α} {a : α} {f : Nat → α → Option β} {r : β} (hx : x = some a) (h : Ev (fun n => f n a) r) : Ev (fun n => x.bind (f n)) r := Ev.bind (eqv hx) h
theorem ev_to {g : Nat → Option α} {r q : α} (h : Ev g r) (e : r = q) : Ev g q := e ▸ h
end
end EvKit

namespace ListKit
theorem set_at {α : Type} (p : List α) (x y : α) (q : List α) : (p ++ x :: q).set (p.length : Int).toNat y = p ++ y :: q := by
  rw [Int.toNat_natCast, List.set_append_right _ _ (Nat.le_refl _), Nat.sub_self, List.set_cons_zero]
theorem shift {α : Type} (p : List α) (y : α) (q : List α) : p ++ y :: q = (p ++ [y]) ++ q := by simp
theorem w64w (a b : Int) : wrap64 (wrap64 a + b) = wrap64 (a + b) := by unfold wrap64; omega
end ListKit

def neKeeper (x y : S52) : Bool := (!(x.f0.f0 == y.f0.f0) || (!(x.f0.f1 == y.f0.f1))) || (!(x.f1 == y.f1) || (!(x.f2 == y.f2) || (!(x.f3 == y.f3))))
def sameKeeper : List S52 → List S52 → Bool
  | x :: l, y :: m => if neKeeper x y = true then false else sameKeeper l m
  | _, _ => true
theorem rd_T52_drop (l : List S52) (i : Nat) (h : i < l.length) : l.drop i = rd_T52 l (i : Int) :: l.drop (i + 1) := by
  rw [List.drop_eq_getElem_cons h]
  simp [rd_T52, List.getD, List.getElem?_eq_getElem h]

def eqHostsB (a b c d e : Int) (l : List S52) (m a' b' c' d' e' : Int) (l' : List S52) (m' : Int) : Bool :=
  if ((!(a == a') || (!(b == b'))) || (!(c == c') || (!(d == d') || (!(e == e'))))) = true then false else if m = m' then (if l.length = l'.length then sameKeeper l l' else false) else false
theorem spec_EqualHosts.ev_l (a b c d e : Int) (l : List S52) (m a' b' c' d' e' : Int) (l' : List S52) (m' : Int) (hl : l.length ≤ 9223372036854775806) (hll : l.length = l'.length) : ∀ (n i : Nat), l.length - i = n → i ≤ l.length →
    Ev (fun k => spec_EqualHosts.l0 k (i : Int) a b c d e l m a' b' c' d' e' l' m') (sameKeeper (l.drop i) (l'.drop i)) := by
  intro n
  induction n with
  | zero =>
    intro i hd hi
    refine Ev.step (fun k => by rw [spec_EqualHosts.l0]) ?_
    refine EvKit.itf (by omega) (EvKit.ret ?_)
    rw [List.drop_of_length_le (by omega)]; rfl
  | succ n ih =>
    intro i hd hi
    refine Ev.step (fun k => by rw [spec_EqualHosts.l0]) ?_
    rw [rd_T52_drop l i (by omega), rd_T52_drop l' i (by omega)]
    refine EvKit.itt (by omega) (EvKit.itt (by omega) (EvKit.itt (by omega) (EvKit.ite (fun h => ?_) (fun h => ?_))))
    · exact EvKit.ret (by rw [sameKeeper, if_pos (show neKeeper _ _ = true from h)])
    · rw [EvKit.w64 (n := (i : Int) + 1) (by omega) (by omega), sameKeeper, if_neg (show ¬ neKeeper _ _ = true from h)]
      exact ih (i + 1) (by omega) (by omega)
theorem spec_EqualHosts.ev (a b c d e : Int) (l : List S52) (m a' b' c' d' e' : Int) (l' : List S52) (m' : Int) (hl : l.length ≤ 9223372036854775806) :
    Ev (fun k => spec_EqualHosts.f k a b c d e l m a' b' c' d' e' l' m') (eqHostsB a b c d e l m a' b' c' d' e' l' m') := by
  unfold spec_EqualHosts.f eqHostsB
  refine EvKit.ite (fun h => ?_) (fun h => ?_)
  · rw [if_pos h]
    refine Ev.step (fun k => by rw [spec_EqualHosts.j0]) ?_
    exact EvKit.itt rfl (EvKit.ret rfl)
  · rw [if_neg h]
    refine EvKit.ite (fun h2 => ?_) (fun h2 => ?_)
    · rw [if_pos h2]
      refine Ev.step (fun k => by rw [spec_EqualHosts.j0]) ?_
      refine EvKit.ite (fun h3 => ?_) (fun h3 => ?_)
      · rw [if_neg (by simp at h3; omega)]
        exact EvKit.ret rfl
      · have h4 : l.length = l'.length := by simp at h3; omega
        rw [if_pos h4]
        exact spec_EqualHosts.ev_l a b c d e l m a' b' c' d' e' l' m' hl h4 _ 0 rfl (by omega)
    · rw [if_neg h2]
      refine Ev.step (fun k => by rw [spec_EqualHosts.j0]) ?_
      exact EvKit.itt rfl (EvKit.ret rfl)
theorem impl_EqualHosts.ev_l (a b c d e : Int) (l : List S52) (m a' b' c' d' e' : Int) (l' : List S52) (m' : Int) (hl : l.length ≤ 9223372036854775806) (hll : l.length = l'.length) : ∀ (n i : Nat), l.length - i = n → i ≤ l.length →
    Ev (fun k => impl_EqualHosts.l0 k (l.length : Int) (i : Int) a b c d e l m a' b' c' d' e' l' m') (sameKeeper (l.drop i) (l'.drop i)) := by
  intro n
  induction n with
  | zero =>
    intro i hd hi
    refine Ev.step (fun k => by rw [impl_EqualHosts.l0]) ?_
    refine EvKit.itf (by omega) (EvKit.ret ?_)
    rw [List.drop_of_length_le (by omega)]; rfl
  | succ n ih =>
    intro i hd hi
    refine Ev.step (fun k => by rw [impl_EqualHosts.l0]) ?_
    rw [rd_T52_drop l i (by omega), rd_T52_drop l' i (by omega)]
    refine EvKit.itt (by omega) (EvKit.itt (by omega) (EvKit.itt (by omega) (EvKit.itt (by omega) (EvKit.ite (fun h => ?_) (fun h => ?_)))))
    · exact EvKit.ret (by rw [sameKeeper, if_pos (show neKeeper _ _ = true from h)])
    · rw [EvKit.w64 (n := (i : Int) + 1) (by omega) (by omega), sameKeeper, if_neg (show ¬ neKeeper _ _ = true from h)]
      exact ih (i + 1) (by omega) (by omega)
theorem impl_EqualHosts.ev (a b c d e : Int) (l : List S52) (m a' b' c' d' e' : Int) (l' : List S52) (m' : Int) (hl : l.length ≤ 9223372036854775806) :
    Ev (fun k => impl_EqualHosts.f k a b c d e l m a' b' c' d' e' l' m') (eqHostsB a b c d e l m a' b' c' d' e' l' m') := by
  unfold impl_EqualHosts.f eqHostsB
  refine EvKit.ite (fun h => ?_) (fun h => ?_)
  · rw [if_pos h]
    refine Ev.step (fun k => by rw [impl_EqualHosts.j0]) ?_
    exact EvKit.itt rfl (EvKit.ret rfl)
  · rw [if_neg h]
    refine EvKit.ite (fun h2 => ?_) (fun h2 => ?_)
    · rw [if_pos h2]
      refine Ev.step (fun k => by rw [impl_EqualHosts.j0]) ?_
      refine EvKit.ite (fun h3 => ?_) (fun h3 => ?_)
      · rw [if_neg (by simp at h3; omega)]
        exact EvKit.ret rfl
      · have h4 : l.length = l'.length := by simp at h3; omega
        rw [if_pos h4]
        exact impl_EqualHosts.ev_l a b c d e l m a' b' c' d' e' l' m' hl h4 _ 0 rfl (by omega)
    · rw [if_neg h2]
      refine Ev.step (fun k => by rw [impl_EqualHosts.j0]) ?_
      exact EvKit.itt rfl (EvKit.ret rfl)

theorem laws_szKeeperS.eq (l : List S44) (v : Int) (h0 : 0 ≤ v) (h1 : v ≤ 1048576) (hl : l.length ≤ 9223372036854775807) : laws_szKeeperS.f l v = some (if v < (l.length : Int) then -1 else v - (l.length : Int)) := by
  unfold laws_szKeeperS.f
  rw [EvKit.w64 (by omega) (by omega)]
  by_cases h : v < (l.length : Int)
  · rw [if_pos (by omega), if_pos h]
  · rw [if_neg (by omega), if_neg h]

/-! ### toKeeperS: the same list -/
def toKeeperC (x : S44) : S52 := (⟨(⟨x.f0.f0, x.f0.f1⟩ : S50), x.f1, x.f2, x.f3⟩ : S52)
theorem rd_T44_at (p : List S44) (x : S44) (q : List S44) (i : Nat) (hi : i = p.length) : rd_T44 (p ++ x :: q) (i : Int) = x := by subst hi; simp [rd_T44]
theorem laws_toKeeperS.ev_l : ∀ (q p : List S44) (i : Nat), i = p.length → p.length + q.length ≤ 4611686018427387904 →
    Ev (fun k => laws_toKeeperS.l0 k (p ++ q) (p.map toKeeperC ++ List.replicate q.length z52) (i : Int)) ((p ++ q).map toKeeperC) := by
  intro q
  induction q with
  | nil =>
    intro p i hi h
    refine Ev.step (fun k => by rw [laws_toKeeperS.l0]) ?_
    exact EvKit.itf (by simp; omega) (EvKit.ret (by simp))
  | cons x q ih =>
    intro p i hi h
    simp only [List.length_cons] at h
    refine Ev.step (fun k => by rw [laws_toKeeperS.l0]) ?_
    refine EvKit.itt (by simp only [List.length_append, List.length_cons]; omega) (EvKit.itt (by omega) ?_)
    rw [rd_T44_at p x q i hi]
    simp only [laws_toKeeper.f, laws_toShare.f, Option.bind_some]
    refine EvKit.itt (by simp only [List.length_append, List.length_map, List.length_replicate, List.length_cons]; omega) ?_
    rw [EvKit.w64 (n := (i : Int) + 1) (by omega) (by omega)]
    have e : (p.map toKeeperC ++ List.replicate (x :: q).length z52).set (i : Int).toNat (toKeeperC x) = (p ++ [x]).map toKeeperC ++ List.replicate q.length z52 := by
      rw [List.length_cons, List.replicate_succ]
      have h2 := ListKit.set_at (p.map toKeeperC) z52 (toKeeperC x) (List.replicate q.length z52)
      rw [List.length_map, ← hi] at h2
      rw [h2]
      simp
    have e2 : p ++ x :: q = (p ++ [x]) ++ q := by simp
    refine EvKit.ev_to (Ev.congr (fun k => ?_) (ih (p ++ [x]) (i + 1) (by simp; omega) (by simp only [List.length_append, List.length_cons, List.length_nil]; omega))) (by rw [e2])
    rw [← e, ← e2]
    rfl
theorem laws_toKeeperS.ev (l : List S44) (hl : l.length ≤ 1048576) : Ev (fun k => laws_toKeeperS.f k l) (l.map toKeeperC) := by
  unfold laws_toKeeperS.f
  exact EvKit.itt (by omega) (EvKit.itt (by omega) (laws_toKeeperS.ev_l l [] 0 rfl (by simp; omega)))

theorem laws_szKeeperHost.eq (a b c d e : Int) (l : List S44) (m v : Int) (h0 : 0 ≤ v) (h1 : v ≤ 1048576) (hl : l.length ≤ 9223372036854775807) : laws_szKeeperHost.f a b c d e l m v = some (if v < (l.length : Int) then -1 else v - (l.length : Int)) := by
  unfold laws_szKeeperHost.f
  rw [laws_szKeeperS.eq l v h0 h1 hl]
  simp only [Option.bind_some]
  by_cases h : v < (l.length : Int)
  · rw [if_pos h]; rfl
  · rw [if_neg h, if_neg (by omega)]
theorem laws_toKeeperHost.ev (a b c d e : Int) (l : List S44) (m : Int) (hl : l.length ≤ 1048576) : Ev (fun k => laws_toKeeperHost.f k a b c d e l m) (a, b, c, d, e, l.map toKeeperC, m) := by
  unfold laws_toKeeperHost.f laws_toKeeper.f laws_toShare.f
  exact EvKit.now (EvKit.now (Ev.bind (laws_toKeeperS.ev l hl) (EvKit.ret rfl)))

/-! ### eqKeeperS: a list and itself -/
theorem laws_eqKeeper.refl (a0 a1 a2 a3 a4 : Int) : laws_eqKeeper.f a0 a1 a2 a3 a4 a0 a1 a2 a3 a4 = some true := by simp [laws_eqKeeper.f, laws_eqShare.f]
theorem laws_eqKeeperS.ev_l (l : List S52) (hl : l.length ≤ 9223372036854775806) : ∀ (d i : Nat), l.length - i = d → i ≤ l.length → Ev (fun k => laws_eqKeeperS.l0 k l l (i : Int)) true := by
  intro d
  induction d with
  | zero =>
    intro i hd hi
    refine Ev.step (fun k => by rw [laws_eqKeeperS.l0]) ?_
    exact EvKit.itf (by omega) (EvKit.ret rfl)
  | succ d ih =>
    intro i hd hi
    refine Ev.step (fun k => by rw [laws_eqKeeperS.l0]) ?_
    refine EvKit.itt (by omega) (EvKit.itt (by omega) (EvKit.itt (by omega) (EvKit.bnd (laws_eqKeeper.refl ..) (EvKit.itt rfl ?_))))
    rw [EvKit.w64 (n := (i : Int) + 1) (by omega) (by omega)]
    exact ih (i + 1) (by omega) (by omega)
theorem laws_eqKeeperS.ev (l : List S52) (hl : l.length ≤ 9223372036854775806) : Ev (fun k => laws_eqKeeperS.f k l l) true := by
  unfold laws_eqKeeperS.f
  exact EvKit.itt rfl (laws_eqKeeperS.ev_l l hl _ 0 rfl (by omega))

theorem laws_eqKeeperHost.ev (a b c d e : Int) (l : List S52) (m : Int) (hl : l.length ≤ 9223372036854775806) : Ev (fun k => laws_eqKeeperHost.f k a b c d e l m a b c d e l m) true := by
  unfold laws_eqKeeperHost.f
  exact EvKit.bnd (laws_eqKeeper.refl ..) (EvKit.itt rfl (Ev.bind (laws_eqKeeperS.ev l hl) (EvKit.itt rfl (EvKit.itt rfl (EvKit.ret rfl)))))

/-! ### lists of hosts -/
def toKeeperHostC (x : S47) : S55 := ⟨toKeeperC x.f0, x.f1.map toKeeperC, x.f2⟩
def szHosts : List S47 → Nat
  | [] => 0
  | x :: l => x.f1.length + szHosts l
theorem szHosts_mem {x : S47} : ∀ {l : List S47}, x ∈ l → x.f1.length ≤ szHosts l
  | y :: l, h => by
    rcases List.mem_cons.1 h with rfl | h
    · simp [szHosts]
    · have := szHosts_mem h
      simp only [szHosts]; omega
theorem rd_T47_drop (l : List S47) (i : Nat) (h : i < l.length) : l.drop i = rd_T47 l (i : Int) :: l.drop (i + 1) := by
  rw [List.drop_eq_getElem_cons h]
  simp [rd_T47, List.getD, List.getElem?_eq_getElem h]
theorem laws_szKeeperHostS.ev_l (l : List S47) (hl : l.length ≤ 9223372036854775806) (he : ∀ x ∈ l, x.f1.length ≤ 9223372036854775807) : ∀ (d i : Nat) (v : Int), l.length - i = d → i ≤ l.length → 0 ≤ v → v ≤ 1048576 →
    ∃ r, Ev (fun k => laws_szKeeperHostS.l0 k l v (i : Int)) r ∧ (0 ≤ r → r = v - (szHosts (l.drop i) : Int)) ∧ r ≤ 1048576 := by
  intro d
  induction d with
  | zero =>
    intro i v hd hi h0 h1
    refine ⟨v, ?_, fun _ => ?_, h1⟩
    · refine Ev.step (fun k => by rw [laws_szKeeperHostS.l0]) ?_
      exact EvKit.itf (by omega) (EvKit.ret rfl)
    · rw [List.drop_of_length_le (by omega)]; simp [szHosts]
  | succ d ih =>
    intro i v hd hi h0 h1
    have hr := rd_T47_drop l i (by omega)
    have hm : rd_T47 l (i : Int) ∈ l := List.drop_subset i l (by rw [hr]; exact List.mem_cons_self)
    have hb := he _ hm
    by_cases h : v < ((rd_T47 l (i : Int)).f1.length : Int)
    · refine ⟨-1, ?_, fun h => by omega, by omega⟩
      refine Ev.step (fun k => by rw [laws_szKeeperHostS.l0]) ?_
      refine EvKit.itt (by omega) (EvKit.itt (by omega) (EvKit.bnd (laws_szKeeperHost.eq _ _ _ _ _ _ _ _ h0 h1 hb) ?_))
      rw [if_pos h]
      exact EvKit.itt (by omega) (EvKit.ret rfl)
    · obtain ⟨r, h2, h3, h4⟩ := ih (i + 1) (v - ((rd_T47 l (i : Int)).f1.length : Int)) (by omega) (by omega) (by omega) (by omega)
      refine ⟨r, ?_, fun hr0 => ?_, h4⟩
      · refine Ev.step (fun k => by rw [laws_szKeeperHostS.l0]) ?_
        refine EvKit.itt (by omega) (EvKit.itt (by omega) (EvKit.bnd (laws_szKeeperHost.eq _ _ _ _ _ _ _ _ h0 h1 hb) ?_))
        rw [if_neg h]
        refine EvKit.itf (by omega) ?_
        rw [EvKit.w64 (n := (i : Int) + 1) (by omega) (by omega)]
        exact h2
      · rw [h3 hr0, hr]
        simp only [szHosts]
        omega
theorem laws_szKeeperHostS.ev (l : List S47) (v : Int) (hl : l.length ≤ 9223372036854775807) (he : ∀ x ∈ l, x.f1.length ≤ 9223372036854775807) (h0 : 0 ≤ v) (h1 : v ≤ 1048576) :
    ∃ r, Ev (fun k => laws_szKeeperHostS.f k l v) r ∧ (0 ≤ r → r = v - (l.length : Int) - (szHosts l : Int)) ∧ r ≤ 1048576 := by
  unfold laws_szKeeperHostS.f
  rw [EvKit.w64 (by omega) (by omega)]
  by_cases h : v - (l.length : Int) < 0
  · exact ⟨-1, EvKit.itt h (EvKit.ret rfl), fun h => by omega, by omega⟩
  · obtain ⟨r, h2, h3, h4⟩ := laws_szKeeperHostS.ev_l l (by omega) he _ 0 (v - (l.length : Int)) rfl (by omega) (by omega) (by omega)
    exact ⟨r, EvKit.itf h h2, fun h => by rw [h3 h]; simp, h4⟩
theorem rd_T47_at (p : List S47) (x : S47) (q : List S47) (i : Nat) (hi : i = p.length) : rd_T47 (p ++ x :: q) (i : Int) = x := by subst hi; simp [rd_T47]
theorem laws_toKeeperHostS.ev_l : ∀ (q p : List S47) (i : Nat), i = p.length → p.length + q.length ≤ 4611686018427387904 → (∀ x ∈ q, x.f1.length ≤ 1048576) →
    Ev (fun k => laws_toKeeperHostS.l0 k (p ++ q) (p.map toKeeperHostC ++ List.replicate q.length z55) (i : Int)) ((p ++ q).map toKeeperHostC) := by
  intro q
  induction q with
  | nil =>
    intro p i hi h he
    refine Ev.step (fun k => by rw [laws_toKeeperHostS.l0]) ?_
    exact EvKit.itf (by simp; omega) (EvKit.ret (by simp))
  | cons x q ih =>
    intro p i hi h he
    simp only [List.length_cons] at h
    refine Ev.step (fun k => by rw [laws_toKeeperHostS.l0]) ?_
    refine EvKit.itt (by simp only [List.length_append, List.length_cons]; omega) (EvKit.itt (by omega) ?_)
    rw [rd_T47_at p x q i hi]
    refine Ev.bind (laws_toKeeperHost.ev _ _ _ _ _ _ _ (he x (by simp))) ?_
    refine EvKit.itt (by simp only [List.length_append, List.length_map, List.length_replicate, List.length_cons]; omega) ?_
    rw [EvKit.w64 (n := (i : Int) + 1) (by omega) (by omega)]
    have e : (p.map toKeeperHostC ++ List.replicate (x :: q).length z55).set (i : Int).toNat (toKeeperHostC x) = (p ++ [x]).map toKeeperHostC ++ List.replicate q.length z55 := by
      rw [List.length_cons, List.replicate_succ]
      have h2 := ListKit.set_at (p.map toKeeperHostC) z55 (toKeeperHostC x) (List.replicate q.length z55)
      rw [List.length_map, ← hi] at h2
      rw [h2]
      simp
    have e2 : p ++ x :: q = (p ++ [x]) ++ q := by simp
    refine EvKit.ev_to (Ev.congr (fun k => ?_) (ih (p ++ [x]) (i + 1) (by simp; omega) (by simp only [List.length_append, List.length_cons, List.length_nil]; omega) (fun y hy => he y (by simp [hy])))) (by rw [e2])
    rw [← e, ← e2]
    rfl
theorem laws_toKeeperHostS.ev (l : List S47) (hl : l.length ≤ 1048576) (he : ∀ x ∈ l, x.f1.length ≤ 1048576) : Ev (fun k => laws_toKeeperHostS.f k l) (l.map toKeeperHostC) := by
  unfold laws_toKeeperHostS.f
  exact EvKit.itt (by omega) (EvKit.itt (by omega) (laws_toKeeperHostS.ev_l l [] 0 rfl (by simp; omega) he))
theorem rd_T55_drop (l : List S55) (i : Nat) (h : i < l.length) : l.drop i = rd_T55 l (i : Int) :: l.drop (i + 1) := by
  rw [List.drop_eq_getElem_cons h]
  simp [rd_T55, List.getD, List.getElem?_eq_getElem h]
theorem rd_T55_mem (l : List S55) (i : Nat) (h : i < l.length) : rd_T55 l (i : Int) ∈ l :=
  List.drop_subset i l (by rw [rd_T55_drop l i h]; exact List.mem_cons_self)
theorem laws_eqKeeperHostS.ev_l (l : List S55) (hl : l.length ≤ 9223372036854775806) (he : ∀ x ∈ l, x.f1.length ≤ 9223372036854775806) : ∀ (d i : Nat), l.length - i = d → i ≤ l.length → Ev (fun k => laws_eqKeeperHostS.l0 k l l (i : Int)) true := by
  intro d
  induction d with
  | zero =>
    intro i hd hi
    refine Ev.step (fun k => by rw [laws_eqKeeperHostS.l0]) ?_
    exact EvKit.itf (by omega) (EvKit.ret rfl)
  | succ d ih =>
    intro i hd hi
    refine Ev.step (fun k => by rw [laws_eqKeeperHostS.l0]) ?_
    refine EvKit.itt (by omega) (EvKit.itt (by omega) (EvKit.itt (by omega) (Ev.bind (laws_eqKeeperHost.ev _ _ _ _ _ _ _ (he _ (rd_T55_mem l i (by omega)))) (EvKit.itt rfl ?_))))
    rw [EvKit.w64 (n := (i : Int) + 1) (by omega) (by omega)]
    exact ih (i + 1) (by omega) (by omega)
theorem laws_eqKeeperHostS.ev (l : List S55) (hl : l.length ≤ 9223372036854775806) (he : ∀ x ∈ l, x.f1.length ≤ 9223372036854775806) : Ev (fun k => laws_eqKeeperHostS.f k l l) true := by
  unfold laws_eqKeeperHostS.f
  exact EvKit.itt rfl (laws_eqKeeperHostS.ev_l l hl he _ 0 rfl (by omega))

def eqHostB (x y : S55) : Bool := eqHostsB x.f0.f0.f0 x.f0.f0.f1 x.f0.f1 x.f0.f2 x.f0.f3 x.f1 x.f2 y.f0.f0.f0 y.f0.f0.f1 y.f0.f1 y.f0.f2 y.f0.f3 y.f1 y.f2
def sameHosts : List S55 → List S55 → Bool
  | x :: l, y :: m => if eqHostB x y = true then sameHosts l m else false
  | _, _ => true
def eqVaultHostsB (l m : List S55) : Bool := if l.length = m.length then sameHosts l m else false
theorem spec_EqualVaultHosts.ev_l (l m : List S55) (hl : l.length ≤ 9223372036854775806) (he : ∀ x ∈ l, x.f1.length ≤ 9223372036854775806) (hlm : l.length = m.length) : ∀ (d i : Nat), l.length - i = d → i ≤ l.length → Ev (fun k => spec_EqualVaultHosts.l0 k l m (i : Int)) (sameHosts (l.drop i) (m.drop i)) := by
  intro d
  induction d with
  | zero =>
    intro i hd hi
    refine Ev.step (fun k => by rw [spec_EqualVaultHosts.l0]) ?_
    refine EvKit.itf (by omega) (EvKit.ret ?_)
    rw [List.drop_of_length_le (by omega)]; rfl
  | succ d ih =>
    intro i hd hi
    refine Ev.step (fun k => by rw [spec_EqualVaultHosts.l0]) ?_
    rw [rd_T55_drop l i (by omega), rd_T55_drop m i (by omega), sameHosts]
    refine EvKit.itt (by omega) (EvKit.itt (by omega) (EvKit.itt (by omega) (Ev.bind (spec_EqualHosts.ev _ _ _ _ _ _ _ _ _ _ _ _ _ _ (he _ (rd_T55_mem l i (by omega)))) (EvKit.ite (fun h => ?_) (fun h => ?_)))))
    · rw [if_pos (show eqHostB _ _ = true from h), EvKit.w64 (n := (i : Int) + 1) (by omega) (by omega)]
      exact ih (i + 1) (by omega) (by omega)
    · rw [if_neg (show ¬ eqHostB _ _ = true from h)]
      exact EvKit.ret rfl
theorem spec_EqualVaultHosts.ev (l m : List S55) (hl : l.length ≤ 9223372036854775806) (he : ∀ x ∈ l, x.f1.length ≤ 9223372036854775806) : Ev (fun k => spec_EqualVaultHosts.f k l m) (eqVaultHostsB l m) := by
  unfold spec_EqualVaultHosts.f eqVaultHostsB
  refine EvKit.ite (fun h => ?_) (fun h => ?_)
  · rw [if_pos (by omega)]
    exact spec_EqualVaultHosts.ev_l l m hl he (by omega) _ 0 rfl (by omega)
  · rw [if_neg (by omega)]
    exact EvKit.ret rfl
theorem impl_EqualVaultHosts.ev_l (l m : List S55) (hl : l.length ≤ 9223372036854775806) (he : ∀ x ∈ l, x.f1.length ≤ 9223372036854775806) (hlm : l.length = m.length) : ∀ (d i : Nat), l.length - i = d → i ≤ l.length → Ev (fun k => impl_EqualVaultHosts.l0 k l m (l.length : Int) (i : Int)) (sameHosts (l.drop i) (m.drop i)) := by
  intro d
  induction d with
  | zero =>
    intro i hd hi
    refine Ev.step (fun k => by rw [impl_EqualVaultHosts.l0]) ?_
    refine EvKit.itf (by omega) (EvKit.ret ?_)
    rw [List.drop_of_length_le (by omega)]; rfl
  | succ d ih =>
    intro i hd hi
    refine Ev.step (fun k => by rw [impl_EqualVaultHosts.l0]) ?_
    rw [rd_T55_drop l i (by omega), rd_T55_drop m i (by omega), sameHosts]
    refine EvKit.itt (by omega) (EvKit.itt (by omega) (EvKit.itt (by omega) (EvKit.itt (by omega) (Ev.bind (impl_EqualHosts.ev _ _ _ _ _ _ _ _ _ _ _ _ _ _ (he _ (rd_T55_mem l i (by omega)))) (EvKit.ite (fun h => ?_) (fun h => ?_))))))
    · rw [if_pos (show eqHostB _ _ = true from h), EvKit.w64 (n := (i : Int) + 1) (by omega) (by omega)]
      exact ih (i + 1) (by omega) (by omega)
    · rw [if_neg (show ¬ eqHostB _ _ = true from h)]
      exact EvKit.ret rfl
theorem impl_EqualVaultHosts.ev (l m : List S55) (hl : l.length ≤ 9223372036854775806) (he : ∀ x ∈ l, x.f1.length ≤ 9223372036854775806) : Ev (fun k => impl_EqualVaultHosts.f k l m) (eqVaultHostsB l m) := by
  unfold impl_EqualVaultHosts.f eqVaultHostsB
  refine EvKit.ite (fun h => ?_) (fun h => ?_)
  · rw [if_pos (by omega)]
    exact impl_EqualVaultHosts.ev_l l m hl he (by omega) _ 0 rfl (by omega)
  · rw [if_neg (by omega)]
    exact EvKit.ret rfl

end Go.Proofs.Ytaajgknmclpbiaa.QFnExactEqualVaultHosts
