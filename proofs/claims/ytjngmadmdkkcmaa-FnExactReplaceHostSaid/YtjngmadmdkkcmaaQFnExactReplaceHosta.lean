/- What the printed functions of FnExactReplaceHost come to, in plain terms; no condition beyond those in each theorem. -/
import Derived.Test.YtjngmadmdkkcmaaRFnExactReplaceHost
set_option linter.unusedVariables false
set_option linter.unusedSimpArgs false
namespace Go.Proofs.Ytjngmadmdkkcmaa.QFnExactReplaceHost
open Go.RowKit Go.Proofs.Ytjngmadmdkkcmaa.PFnExactReplaceHost Go.Proofs.YtjngmadmdkkcmaaW.PrintWords Go.Proofs.YtjngmadmdkkcmaaW.PrintLast Go.Proofs.Ytjngmadmdkkcmaa.RFnExactReplaceHost
/-! ### evkit: steps for printed functions -/
namespace EvKit
theorem w64 {n : Int} (h0 : -9223372036854775808 ≤ n) (h1 : n ≤ 9223372036854775807) : wrap64 n = n := by unfold wrap64; omega
section
variable {α β : Type}
theorem ret {x r : α} (h : x = r) : Ev (fun _ => some x) r := ⟨0, fun _ _ => by rw [h]⟩
theorem eqv {x : Option α} {r : α} (h : x = some r) : Ev (fun _ => x) r := ⟨0, fun _ _ => h⟩
theorem itt {c : Prop} [Decidable c] {a b : Nat → Option α} {r : α} (hc : c) (h : Ev a r) : Ev (fun k => if c then a k else b k) r := Ev.congr (fun _ => if_pos hc) h
theorem itf {c : Prop} [Decidable c] {a b : Nat → Option α} {r : α} (hc : ¬ c) (h : Ev b r) : Ev (fun k => if c then a k else b k) r := Ev.congr (fun _ => if_neg hc) h
theorem ite {c : Prop} [Decidable c] {a b : Nat → Option α} {r : α} (h : c → Ev a r) (h' : ¬ c → Ev b r) : Ev (fun k => if c then a k else b k) r := by
  by_cases hc : c
  · exact itt hc (h hc)
  · exact itf hc (h' hc)
theorem now {x : α} {f : Nat → α → Option β} {r : β} (h : Ev (fun n => f n x) r) : Ev (fun n => (some x).bind (f n)) r := h
theorem bnd {x : Option α} {a : α} {f : Nat → α → Option β} {r : β} (hx : x = some a) (h : Ev (fun n => f n a) r) : Ev (fun n => x.bind (f n)) r := Ev.bind (eqv hx) h
theorem ev_to {g : Nat → Option α} {r q : α} (h : Ev g r) (e : r = q) : Ev g q := e ▸ h
end
end EvKit

namespace ListKit
theorem set_at {α : Type} (p : List α) (x y : α) (q : List α) : (p ++ x :: q).set (p.length : Int).toNat y = p ++ y :: q := by
  rw [Int.toNat_natCast, List.set_append_right _ _ (Nat.le_refl _), Nat.sub_self, List.set_cons_zero]
theorem shift {α : Type} (p : List α) (y : α) (q : List α) : p ++ y :: q = (p ++ [y]) ++ q := by simp
theorem w64w (a b : Int) : wrap64 (wrap64 a + b) = wrap64 (a + b) := by unfold wrap64; omega
end ListKit

theorem laws_szKeeperS.eq (l : List S44) (v : Int) (h0 : 0 ≤ v) (h1 : v ≤ 1048576) (hl : l.length ≤ 9223372036854775807) : laws_szKeeperS.f l v = some (if v < (l.length : Int) then -1 else v - (l.length : Int)) := by
  unfold laws_szKeeperS.f
  rw [EvKit.w64 (by omega) (by omega)]
  by_cases h : v < (l.length : Int)
  · rw [if_pos (by omega), if_pos h]
  · rw [if_neg (by omega), if_neg h]

/-! ### toKeeperS: the same list -/
def toKeeperC (x : S44) : S28 := (⟨(⟨x.f0.f0, x.f0.f1⟩ : S26), x.f1, x.f2, x.f3⟩ : S28)
theorem rd_T44_at (p : List S44) (x : S44) (q : List S44) (i : Nat) (hi : i = p.length) : rd_T44 (p ++ x :: q) (i : Int) = x := by subst hi; simp [rd_T44]
theorem laws_toKeeperS.ev_l : ∀ (q p : List S44) (i : Nat), i = p.length → p.length + q.length ≤ 4611686018427387904 →
    Ev (fun k => laws_toKeeperS.l0 k (p ++ q) (p.map toKeeperC ++ List.replicate q.length z28) (i : Int)) ((p ++ q).map toKeeperC) := by
  intro q
  induction q with
  | nil =>
    intro p i hi h
    refine Ev.step (fun k => by rw [laws_toKeeperS.l0]) ?_
    exact EvKit.itf (by simp; omega) (EvKit.ret (by simp))
  | cons x q ih =>
    intro p i hi h
    simp only [List.length_cons] at h
    refine Ev.step (fun k => by rw [laws_toKeeperS.l0]) ?_
    refine EvKit.itt (by simp only [List.length_append, List.length_cons]; omega) (EvKit.itt (by omega) ?_)
    rw [rd_T44_at p x q i hi]
    simp only [laws_toKeeper.f, laws_toShare.f, Option.bind_some]
    refine EvKit.itt (by simp only [List.length_append, List.length_map, List.length_replicate, List.length_cons]; omega) ?_
    rw [EvKit.w64 (n := (i : Int) + 1) (by omega) (by omega)]
    have e : (p.map toKeeperC ++ List.replicate (x :: q).length z28).set (i : Int).toNat (toKeeperC x) = (p ++ [x]).map toKeeperC ++ List.replicate q.length z28 := by
      rw [List.length_cons, List.replicate_succ]
      have h2 := ListKit.set_at (p.map toKeeperC) z28 (toKeeperC x) (List.replicate q.length z28)
      rw [List.length_map, ← hi] at h2
      rw [h2]
      simp
    have e2 : p ++ x :: q = (p ++ [x]) ++ q := by simp
    refine EvKit.ev_to (Ev.congr (fun k => ?_) (ih (p ++ [x]) (i + 1) (by simp; omega) (by simp only [List.length_append, List.length_cons, List.length_nil]; omega))) (by rw [e2])
    rw [← e, ← e2]
    rfl
theorem laws_toKeeperS.ev (l : List S44) (hl : l.length ≤ 1048576) : Ev (fun k => laws_toKeeperS.f k l) (l.map toKeeperC) := by
  unfold laws_toKeeperS.f
  exact EvKit.itt (by omega) (EvKit.itt (by omega) (laws_toKeeperS.ev_l l [] 0 rfl (by simp; omega)))

theorem laws_szKeeperHost.eq (a b c d e : Int) (l : List S44) (m v : Int) (h0 : 0 ≤ v) (h1 : v ≤ 1048576) (hl : l.length ≤ 9223372036854775807) : laws_szKeeperHost.f a b c d e l m v = some (if v < (l.length : Int) then -1 else v - (l.length : Int)) := by
  unfold laws_szKeeperHost.f
  rw [laws_szKeeperS.eq l v h0 h1 hl]
  simp only [Option.bind_some]
  by_cases h : v < (l.length : Int)
  · rw [if_pos h]; rfl
  · rw [if_neg h, if_neg (by omega)]
theorem laws_toKeeperHost.ev (a b c d e : Int) (l : List S44) (m : Int) (hl : l.length ≤ 1048576) : Ev (fun k => laws_toKeeperHost.f k a b c d e l m) (a, b, c, d, e, l.map toKeeperC, m) := by
  unfold laws_toKeeperHost.f laws_toKeeper.f laws_toShare.f
  exact EvKit.now (EvKit.now (Ev.bind (laws_toKeeperS.ev l hl) (EvKit.ret rfl)))

theorem laws_eqKeeper.refl (a0 a1 a2 a3 a4 : Int) : laws_eqKeeper.f a0 a1 a2 a3 a4 a0 a1 a2 a3 a4 = some true := by simp [laws_eqKeeper.f, laws_eqShare.f]

/-! ### eqKeeperS: a list and itself -/
theorem laws_eqKeeperS.ev_l (l : List S28) (hl : l.length ≤ 9223372036854775806) : ∀ (d i : Nat), l.length - i = d → i ≤ l.length → Ev (fun k => laws_eqKeeperS.l0 k l l (i : Int)) true := by
  intro d
  induction d with
  | zero =>
    intro i hd hi
    refine Ev.step (fun k => by rw [laws_eqKeeperS.l0]) ?_
    exact EvKit.itf (by omega) (EvKit.ret rfl)
  | succ d ih =>
    intro i hd hi
    refine Ev.step (fun k => by rw [laws_eqKeeperS.l0]) ?_
    refine EvKit.itt (by omega) (EvKit.itt (by omega) (EvKit.itt (by omega) (EvKit.bnd (laws_eqKeeper.refl ..) (EvKit.itt rfl ?_))))
    rw [EvKit.w64 (n := (i : Int) + 1) (by omega) (by omega)]
    exact ih (i + 1) (by omega) (by omega)
theorem laws_eqKeeperS.ev (l : List S28) (hl : l.length ≤ 9223372036854775806) : Ev (fun k => laws_eqKeeperS.f k l l) true := by
  unfold laws_eqKeeperS.f
  exact EvKit.itt rfl (laws_eqKeeperS.ev_l l hl _ 0 rfl (by omega))

theorem laws_eqKeeperHost.ev (a b c d e : Int) (l : List S28) (m : Int) (hl : l.length ≤ 9223372036854775806) : Ev (fun k => laws_eqKeeperHost.f k a b c d e l m a b c d e l m) true := by
  unfold laws_eqKeeperHost.f
  exact EvKit.bnd (laws_eqKeeper.refl ..) (EvKit.itt rfl (Ev.bind (laws_eqKeeperS.ev l hl) (EvKit.itt rfl (EvKit.itt rfl (EvKit.ret rfl)))))

/-! ### lists of hosts -/
def toKeeperHostC (x : S50) : S31 := ⟨toKeeperC x.f0, x.f1.map toKeeperC, x.f2⟩
def szHosts : List S50 → Nat
  | [] => 0
  | x :: l => x.f1.length + szHosts l
theorem szHosts_mem {x : S50} : ∀ {l : List S50}, x ∈ l → x.f1.length ≤ szHosts l
  | y :: l, h => by
    rcases List.mem_cons.1 h with rfl | h
    · simp [szHosts]
    · have := szHosts_mem h
      simp only [szHosts]; omega
theorem rd_T50_drop (l : List S50) (i : Nat) (h : i < l.length) : l.drop i = rd_T50 l (i : Int) :: l.drop (i + 1) := by
  rw [List.drop_eq_getElem_cons h]
  simp [rd_T50, List.getD, List.getElem?_eq_getElem h]
theorem laws_szKeeperHostS.ev_l (l : List S50) (hl : l.length ≤ 9223372036854775806) (he : ∀ x ∈ l, x.f1.length ≤ 9223372036854775807) : ∀ (d i : Nat) (v : Int), l.length - i = d → i ≤ l.length → 0 ≤ v → v ≤ 1048576 →
    ∃ r, Ev (fun k => laws_szKeeperHostS.l0 k l v (i : Int)) r ∧ (0 ≤ r → r = v - (szHosts (l.drop i) : Int)) ∧ r ≤ 1048576 := by
  intro d
  induction d with
  | zero =>
    intro i v hd hi h0 h1
    refine ⟨v, ?_, fun _ => ?_, h1⟩
    · refine Ev.step (fun k => by rw [laws_szKeeperHostS.l0]) ?_
      exact EvKit.itf (by omega) (EvKit.ret rfl)
    · rw [List.drop_of_length_le (by omega)]; simp [szHosts]
  | succ d ih =>
    intro i v hd hi h0 h1
    have hr := rd_T50_drop l i (by omega)
    have hm : rd_T50 l (i : Int) ∈ l := List.drop_subset i l (by rw [hr]; exact List.mem_cons_self)
    have hb := he _ hm
    by_cases h : v < ((rd_T50 l (i : Int)).f1.length : Int)
    · refine ⟨-1, ?_, fun h => by omega, by omega⟩
      refine Ev.step (fun k => by rw [laws_szKeeperHostS.l0]) ?_
      refine EvKit.itt (by omega) (EvKit.itt (by omega) (EvKit.bnd (laws_szKeeperHost.eq _ _ _ _ _ _ _ _ h0 h1 hb) ?_))
      rw [if_pos h]
      exact EvKit.itt (by omega) (EvKit.ret rfl)
    · obtain ⟨r, h2, h3, h4⟩ := ih (i + 1) (v - ((rd_T50 l (i : Int)).f1.length : Int)) (by omega) (by omega) (by omega) (by omega)
      refine ⟨r, ?_, fun hr0 => ?_, h4⟩
      · refine Ev.step (fun k => by rw [laws_szKeeperHostS.l0]) ?_
        refine EvKit.itt (by omega) (EvKit.itt (by omega) (EvKit.bnd (laws_szKeeperHost.eq _ _ _ _ _ _ _ _ h0 h1 hb) ?_))
        rw [if_neg h]
        refine EvKit.itf (by omega) ?_
        rw [EvKit.w64 (n := (i : Int) + 1) (by omega) (by omega)]
        exact h2
      · rw [h3 hr0, hr]
        simp only [szHosts]
        omega
theorem laws_szKeeperHostS.ev (l : List S50) (v : Int) (hl : l.length ≤ 9223372036854775807) (he : ∀ x ∈ l, x.f1.length ≤ 9223372036854775807) (h0 : 0 ≤ v) (h1 : v ≤ 1048576) :
    ∃ r, Ev (fun k => laws_szKeeperHostS.f k l v) r ∧ (0 ≤ r → r = v - (l.length : Int) - (szHosts l : Int)) ∧ r ≤ 1048576 := by
  unfold laws_szKeeperHostS.f
  rw [EvKit.w64 (by omega) (by omega)]
  by_cases h : v - (l.length : Int) < 0
  · exact ⟨-1, EvKit.itt h (EvKit.ret rfl), fun h => by omega, by omega⟩
  · obtain ⟨r, h2, h3, h4⟩ := laws_szKeeperHostS.ev_l l (by omega) he _ 0 (v - (l.length : Int)) rfl (by omega) (by omega) (by omega)
    exact ⟨r, EvKit.itf h h2, fun h => by rw [h3 h]; simp, h4⟩
theorem rd_T50_at (p : List S50) (x : S50) (q : List S50) (i : Nat) (hi : i = p.length) : rd_T50 (p ++ x :: q) (i : Int) = x := by subst hi; simp [rd_T50]
theorem laws_toKeeperHostS.ev_l : ∀ (q p : List S50) (i : Nat), i = p.length → p.length + q.length ≤ 4611686018427387904 → (∀ x ∈ q, x.f1.length ≤ 1048576) →
    Ev (fun k => laws_toKeeperHostS.l0 k (p ++ q) (p.map toKeeperHostC ++ List.replicate q.length z31) (i : Int)) ((p ++ q).map toKeeperHostC) := by
  intro q
  induction q with
  | nil =>
    intro p i hi h he
    refine Ev.step (fun k => by rw [laws_toKeeperHostS.l0]) ?_
    exact EvKit.itf (by simp; omega) (EvKit.ret (by simp))
  | cons x q ih =>
    intro p i hi h he
    simp only [List.length_cons] at h
    refine Ev.step (fun k => by rw [laws_toKeeperHostS.l0]) ?_
    refine EvKit.itt (by simp only [List.length_append, List.length_cons]; omega) (EvKit.itt (by omega) ?_)
    rw [rd_T50_at p x q i hi]
    refine Ev.bind (laws_toKeeperHost.ev _ _ _ _ _ _ _ (he x (by simp))) ?_
    refine EvKit.itt (by simp only [List.length_append, List.length_map, List.length_replicate, List.length_cons]; omega) ?_
    rw [EvKit.w64 (n := (i : Int) + 1) (by omega) (by omega)]
    have e : (p.map toKeeperHostC ++ List.replicate (x :: q).length z31).set (i : Int).toNat (toKeeperHostC x) = (p ++ [x]).map toKeeperHostC ++ List.replicate q.length z31 := by
      rw [List.length_cons, List.replicate_succ]
      have h2 := ListKit.set_at (p.map toKeeperHostC) z31 (toKeeperHostC x) (List.replicate q.length z31)
      rw [List.length_map, ← hi] at h2
      rw [h2]
      simp
    have e2 : p ++ x :: q = (p ++ [x]) ++ q := by simp
    refine EvKit.ev_to (Ev.congr (fun k => ?_) (ih (p ++ [x]) (i + 1) (by simp; omega) (by simp only [List.length_append, List.length_cons, List.length_nil]; omega) (fun y hy => he y (by simp [hy])))) (by rw [e2])
    rw [← e, ← e2]
    rfl
theorem laws_toKeeperHostS.ev (l : List S50) (hl : l.length ≤ 1048576) (he : ∀ x ∈ l, x.f1.length ≤ 1048576) : Ev (fun k => laws_toKeeperHostS.f k l) (l.map toKeeperHostC) := by
  unfold laws_toKeeperHostS.f
  exact EvKit.itt (by omega) (EvKit.itt (by omega) (laws_toKeeperHostS.ev_l l [] 0 rfl (by simp; omega) he))
theorem rd_T31_drop (l : List S31) (i : Nat) (h : i < l.length) : l.drop i = rd_T31 l (i : Int) :: l.drop (i + 1) := by
  rw [List.drop_eq_getElem_cons h]
  simp [rd_T31, List.getD, List.getElem?_eq_getElem h]
theorem rd_T31_mem (l : List S31) (i : Nat) (h : i < l.length) : rd_T31 l (i : Int) ∈ l :=
  List.drop_subset i l (by rw [rd_T31_drop l i h]; exact List.mem_cons_self)
theorem laws_eqKeeperHostS.ev_l (l : List S31) (hl : l.length ≤ 9223372036854775806) (he : ∀ x ∈ l, x.f1.length ≤ 9223372036854775806) : ∀ (d i : Nat), l.length - i = d → i ≤ l.length → Ev (fun k => laws_eqKeeperHostS.l0 k l l (i : Int)) true := by
  intro d
  induction d with
  | zero =>
    intro i hd hi
    refine Ev.step (fun k => by rw [laws_eqKeeperHostS.l0]) ?_
    exact EvKit.itf (by omega) (EvKit.ret rfl)
  | succ d ih =>
    intro i hd hi
    refine Ev.step (fun k => by rw [laws_eqKeeperHostS.l0]) ?_
    refine EvKit.itt (by omega) (EvKit.itt (by omega) (EvKit.itt (by omega) (Ev.bind (laws_eqKeeperHost.ev _ _ _ _ _ _ _ (he _ (rd_T31_mem l i (by omega)))) (EvKit.itt rfl ?_))))
    rw [EvKit.w64 (n := (i : Int) + 1) (by omega) (by omega)]
    exact ih (i + 1) (by omega) (by omega)
theorem laws_eqKeeperHostS.ev (l : List S31) (hl : l.length ≤ 9223372036854775806) (he : ∀ x ∈ l, x.f1.length ≤ 9223372036854775806) : Ev (fun k => laws_eqKeeperHostS.f k l l) true := by
  unfold laws_eqKeeperHostS.f
  exact EvKit.itt rfl (laws_eqKeeperHostS.ev_l l hl he _ 0 rfl (by omega))

/-! ### copies of lists of hosts -/
theorem spec_l24Copy.eqT (x : S31) (h : x.f1.length ≤ 1048576) : spec_l24Copy.f x.f0.f0.f0 x.f0.f0.f1 x.f0.f1 x.f0.f2 x.f0.f3 x.f1 x.f2 = some (x.f0.f0.f0, x.f0.f0.f1, x.f0.f1, x.f0.f2, x.f0.f3, x.f1, x.f2) := by
  unfold spec_l24Copy.f
  rw [Option.bind_some, if_pos (by simp only [List.length_nil]; omega)]
  rfl
theorem spec_l25Hosts.ev_l (l : List S31) (hl : l.length ≤ 1048576) (he : ∀ x ∈ l, x.f1.length ≤ 1048576) : ∀ (n i : Nat) (p : List S31), l.length - i = n → i ≤ l.length → p.length = i → Ev (fun k => spec_l25Hosts.l0 k l p (i : Int)) (p ++ l.drop i) := by
  intro n
  induction n with
  | zero =>
    intro i p hd hi hp
    refine Ev.step (fun k => by rw [spec_l25Hosts.l0]) ?_
    rw [List.drop_of_length_le (by omega)]
    exact EvKit.itf (by omega) (EvKit.ret (by simp))
  | succ n ih =>
    intro i p hd hi hp
    have hr := rd_T31_drop l i (by omega)
    have hm : rd_T31 l (i : Int) ∈ l := List.drop_subset i l (by rw [hr]; exact List.mem_cons_self)
    refine Ev.step (fun k => by rw [spec_l25Hosts.l0]) ?_
    rw [hr, EvKit.w64 (n := (i : Int) + 1) (by omega) (by omega)]
    refine EvKit.itt (by omega) (EvKit.itt (by omega) (EvKit.bnd (spec_l24Copy.eqT _ (he _ hm)) (EvKit.itt (by omega) (EvKit.ev_to (ih (i + 1) (p ++ [rd_T31 l (i : Int)]) (by omega) (by omega) (by simp; omega)) (by simp)))))
theorem spec_l25Hosts.ev (l : List S31) (hl : l.length ≤ 1048576) (he : ∀ x ∈ l, x.f1.length ≤ 1048576) : Ev (fun k => spec_l25Hosts.f k l) l := by
  unfold spec_l25Hosts.f
  exact EvKit.ev_to (spec_l25Hosts.ev_l l hl he _ 0 [] rfl (by omega) rfl) (by simp)
theorem impl_copyHost.eqT (x : S31) (h : x.f1.length ≤ 1048576) : impl_copyHost.f x.f0.f0.f0 x.f0.f0.f1 x.f0.f1 x.f0.f2 x.f0.f3 x.f1 x.f2 = some (x.f0.f0.f0, x.f0.f0.f1, x.f0.f1, x.f0.f2, x.f0.f3, x.f1, x.f2) := by
  unfold impl_copyHost.f
  rw [Option.bind_some, if_pos (by simp only [List.length_nil]; omega)]
  rfl
theorem impl_copyHosts.ev_l (l : List S31) (hl : l.length ≤ 1048576) (he : ∀ x ∈ l, x.f1.length ≤ 1048576) : ∀ (n i : Nat) (p : List S31), l.length - i = n → i ≤ l.length → p.length = i → Ev (fun k => impl_copyHosts.l0 k p l (l.length : Int) (i : Int)) (p ++ l.drop i) := by
  intro n
  induction n with
  | zero =>
    intro i p hd hi hp
    refine Ev.step (fun k => by rw [impl_copyHosts.l0]) ?_
    rw [List.drop_of_length_le (by omega)]
    exact EvKit.itf (by omega) (EvKit.ret (by simp))
  | succ n ih =>
    intro i p hd hi hp
    have hr := rd_T31_drop l i (by omega)
    have hm : rd_T31 l (i : Int) ∈ l := List.drop_subset i l (by rw [hr]; exact List.mem_cons_self)
    refine Ev.step (fun k => by rw [impl_copyHosts.l0]) ?_
    rw [hr, EvKit.w64 (n := (i : Int) + 1) (by omega) (by omega)]
    refine EvKit.itt (by omega) (EvKit.itt (by omega) (EvKit.itt (by omega) (EvKit.bnd (impl_copyHost.eqT _ (he _ hm)) (EvKit.itt (by omega) (EvKit.ev_to (ih (i + 1) (p ++ [rd_T31 l (i : Int)]) (by omega) (by omega) (by simp; omega)) (by simp))))))
theorem impl_copyHosts.ev (l : List S31) (hl : l.length ≤ 1048576) (he : ∀ x ∈ l, x.f1.length ≤ 1048576) : Ev (fun k => impl_copyHosts.f k l) l := by
  unfold impl_copyHosts.f
  exact EvKit.ev_to (impl_copyHosts.ev_l l hl he _ 0 [] rfl (by omega) rfl) (by simp)

def hostShare (x : S31) : S26 := ⟨x.f0.f0.f0, x.f0.f0.f1⟩

theorem spec_l1In.eq (x a b : Int) : spec_l1In.f x a b = some (decide (a ≤ x ∧ x ≤ b)) := by
  unfold spec_l1In.f
  by_cases h : x ≥ a
  · rw [if_pos h]; congr 1; exact decide_eq_decide.mpr ⟨fun z => ⟨h, z⟩, fun z => z.2⟩
  · rw [if_neg h]; congr 1; exact (decide_eq_false (by omega)).symm

/-! ### stolen: the shares of some of the hosts -/
def stolenL (l : List S31) : List Int → List S26
  | [] => []
  | i :: w => if decide (0 ≤ i ∧ i ≤ (l.length : Int) - 1) = true then hostShare (rd_T31 l i) :: stolenL l w else stolenL l w
theorem stolenL_len (l : List S31) : ∀ w, (stolenL l w).length ≤ w.length
  | [] => by simp [stolenL]
  | i :: w => by
    have := stolenL_len l w
    unfold stolenL
    split <;> simp <;> omega
theorem rd_dropI (l : List Int) (i : Nat) (h : i < l.length) : l.drop i = rd l (i : Int) :: l.drop (i + 1) := by
  rw [List.drop_eq_getElem_cons h]
  simp [rd, List.getD, List.getElem?_eq_getElem h]
theorem spec_StolenShares.ev_l (l : List S31) (w : List Int) (hl : l.length ≤ 1048576) (hw : w.length ≤ 1048576) : ∀ (n i : Nat) (p : List S26), w.length - i = n → i ≤ w.length → p.length ≤ i → Ev (fun k => spec_StolenShares.l0 k l w p (i : Int)) (p ++ stolenL l (w.drop i)) := by
  intro n
  induction n with
  | zero =>
    intro i p hd hi hp
    refine Ev.step (fun k => by rw [spec_StolenShares.l0]) ?_
    rw [List.drop_of_length_le (by omega)]
    exact EvKit.itf (by omega) (EvKit.ret (by simp [stolenL]))
  | succ n ih =>
    intro i p hd hi hp
    refine Ev.step (fun k => by rw [spec_StolenShares.l0]) ?_
    rw [rd_dropI w i (by omega), EvKit.w64 (n := (i : Int) + 1) (by omega) (by omega), EvKit.w64 (n := (l.length : Int) - 1) (by omega) (by omega), stolenL]
    refine EvKit.itt (by omega) (EvKit.itt (by omega) (EvKit.bnd (spec_l1In.eq _ _ _) (EvKit.ite (fun h => ?_) (fun h => ?_))))
    · rw [if_pos h]
      have h' := of_decide_eq_true h
      refine EvKit.itt h'.1 (EvKit.itt (by omega) (EvKit.itt (by omega) (EvKit.ev_to (ih (i + 1) (p ++ [hostShare (rd_T31 l (rd w (i : Int)))]) (by omega) (by omega) (by simp; omega)) ?_)))
      simp
    · rw [if_neg h]
      exact ih (i + 1) p (by omega) (by omega) (by omega)
theorem spec_StolenShares.ev (l : List S31) (w : List Int) (hl : l.length ≤ 1048576) (hw : w.length ≤ 1048576) : Ev (fun k => spec_StolenShares.f k l w) (stolenL l w) := by
  unfold spec_StolenShares.f
  exact EvKit.ev_to (spec_StolenShares.ev_l l w hl hw _ 0 [] rfl (by omega) (by simp)) (by simp)
theorem impl_StolenShares.ev_l (l : List S31) (w : List Int) (hl : l.length ≤ 1048576) (hw : w.length ≤ 1048576) : ∀ (n i : Nat) (p : List S26), w.length - i = n → i ≤ w.length → p.length ≤ i → Ev (fun k => impl_StolenShares.l0 k l p w (w.length : Int) (i : Int)) (p ++ stolenL l (w.drop i)) := by
  intro n
  induction n with
  | zero =>
    intro i p hd hi hp
    refine Ev.step (fun k => by rw [impl_StolenShares.l0]) ?_
    rw [List.drop_of_length_le (by omega)]
    exact EvKit.itf (by omega) (EvKit.ret (by simp [stolenL]))
  | succ n ih =>
    intro i p hd hi hp
    refine Ev.step (fun k => by rw [impl_StolenShares.l0]) ?_
    rw [rd_dropI w i (by omega), EvKit.w64 (n := (i : Int) + 1) (by omega) (by omega), stolenL]
    refine EvKit.itt (by omega) (EvKit.itt (by omega) (EvKit.itt (by omega) (EvKit.ite (fun h1 => EvKit.ite (fun h2 => ?_) (fun h2 => ?_)) (fun h1 => ?_))))
    · rw [if_pos (decide_eq_true (by omega))]
      refine EvKit.itt (by omega) (EvKit.itt (by omega) (EvKit.ev_to (ih (i + 1) (p ++ [hostShare (rd_T31 l (rd w (i : Int)))]) (by omega) (by omega) (by simp; omega)) ?_))
      simp
    · rw [if_neg (by simp; omega)]
      exact ih (i + 1) p (by omega) (by omega) (by omega)
    · rw [if_neg (by simp; omega)]
      exact ih (i + 1) p (by omega) (by omega) (by omega)
theorem impl_StolenShares.ev (l : List S31) (w : List Int) (hl : l.length ≤ 1048576) (hw : w.length ≤ 1048576) : Ev (fun k => impl_StolenShares.f k l w) (stolenL l w) := by
  unfold impl_StolenShares.f
  exact EvKit.ev_to (impl_StolenShares.ev_l l w hl hw _ 0 [] rfl (by omega) (by simp)) (by simp)

/-! ### arith: remainders as the program takes them -/
def modI (p q : Int) : Int := if 1 ≤ q ∧ q ≤ 1000000000000 then p % q else 0
theorem modI_pos {q : Int} (p : Int) (h : 1 ≤ q) (h' : q ≤ 1000000000000) : modI p q = p % q := if_pos ⟨h, h'⟩
theorem tmod_lo (p q : Int) (h : 1 ≤ q) : -q < Int.tmod p q := Int.lt_tmod_of_pos p (by omega)
theorem tmod_hi (p q : Int) (h : 1 ≤ q) : Int.tmod p q < q := Int.tmod_lt_of_pos p (by omega)
theorem tmod_emod (p q : Int) : Int.tmod p q % q = p % q := by
  rw [Int.tmod_def, Int.sub_mul_emod_self_left]
theorem tmod_neg_case (p q : Int) (h : 1 ≤ q) (hn : Int.tmod p q < 0) : Int.tmod p q + q = p % q := by
  have h1 := tmod_lo p q h
  rw [← tmod_emod p q, ← Int.add_emod_right, Int.emod_eq_of_lt (by omega) (by omega)]
theorem tmod_pos_case (p q : Int) (h : 1 ≤ q) (hn : 0 ≤ Int.tmod p q) : Int.tmod p q = p % q := by
  have h1 := tmod_hi p q h
  rw [← tmod_emod p q, Int.emod_eq_of_lt hn h1]
theorem tmod_twice (p q : Int) (h : 1 ≤ q) : Int.tmod (Int.tmod p q + q) q = p % q := by
  have h1 := tmod_lo p q h
  rw [Int.tmod_eq_emod_of_nonneg (by omega), Int.add_emod_right, tmod_emod]
theorem tmod_nn {p : Int} (q : Int) (h : 0 ≤ p) : Int.tmod p q = p % q := Int.tmod_eq_emod_of_nonneg h

theorem spec_Mod.eq (p q : Int) : spec_Mod.f p q = some (modI p q) := by
  unfold spec_Mod.f modI
  rw [spec_l1In.eq]
  simp only [Option.bind_some, decide_eq_true_eq]
  by_cases h : 1 ≤ q ∧ q ≤ 1000000000000
  · have h1 := tmod_lo p q h.1
    have h2 := tmod_hi p q h.1
    rw [if_pos h, if_pos h, if_neg (by omega), EvKit.w64 (by omega) (by omega), tmod_twice p q h.1]
  · rw [if_neg h, if_neg h]

theorem impl_Mod.ev (p q : Int) : Ev (fun k => impl_Mod.f k p q) (modI p q) := by
  unfold impl_Mod.f modI
  by_cases h : 1 ≤ q ∧ q ≤ 1000000000000
  · have h1 := tmod_lo p q h.1
    have h2 := tmod_hi p q h.1
    rw [if_pos h]
    refine EvKit.itf (by omega) (Ev.step (fun k => by rw [impl_Mod.j0]) (EvKit.itf (by simp; omega) (EvKit.itf (by omega) (EvKit.ite (fun hn => EvKit.ret ?_) (fun hn => EvKit.ret ?_)))))
    · rw [EvKit.w64 (by omega) (by omega), tmod_neg_case p q h.1 hn]
    · rw [tmod_pos_case p q h.1 (by omega)]
  · rw [if_neg h]
    refine EvKit.ite (fun hq => ?_) (fun hq => ?_)
    · refine Ev.step (fun k => by rw [impl_Mod.j0]) ?_
      exact EvKit.itt rfl (EvKit.ret rfl)
    · refine Ev.step (fun k => by rw [impl_Mod.j0]) ?_
      exact EvKit.itt (by simp; omega) (EvKit.ret rfl)

/-! ### power -/
def gpowL (m : Int) : Nat → Int → Int → Int → Int
  | 0, _, _, r => r
  | n + 1, b, e, r => if 0 < e then gpowL m n (b * b % m) (e / 2) (if e % 2 = 1 then r * b % m else r) else r
theorem gpow_sq {m b : Int} (hm : 1 < m) (hm2 : m ≤ 3000000000) (h0 : 0 ≤ b) (h1 : b < m) (c : Int) (hc0 : 0 ≤ c) (hc1 : c < m) : wrap64 (c * b) = c * b ∧ Int.tmod (c * b) m = c * b % m ∧ 0 ≤ c * b % m ∧ c * b % m < m := by
  have h2 : 0 ≤ c * b := Int.mul_nonneg hc0 h0
  have h3 : c * b ≤ m * m := Int.mul_le_mul (by omega) (by omega) h0 (by omega)
  have h4 : m * m ≤ 3000000000 * 3000000000 := Int.mul_le_mul (by omega) (by omega) (by omega) (by omega)
  exact ⟨EvKit.w64 (by omega) (by omega), Int.tmod_eq_emod_of_nonneg h2, Int.emod_nonneg _ (by omega), Int.emod_lt_of_pos _ (by omega)⟩
theorem impl_power.ev_l (m : Int) (hm : 1 < m) (hm2 : m ≤ 3000000000) : ∀ (n : Nat) (b e r : Int), 0 ≤ b → b < m → 0 ≤ r → r < m → e < 2 ^ n → e ≤ 9223372036854775807 → Ev (fun k => impl_power.l0 k b e m r) (gpowL m n b e r)
  | 0, b, e, r, _, _, _, _, he, _ => by
    refine Ev.step (fun k => by rw [impl_power.l0]) ?_
    exact EvKit.itf (by simp at he; omega) (EvKit.ret rfl)
  | n + 1, b, e, r, hb0, hb1, hr0, hr1, he, he2 => by
    refine Ev.step (fun k => by rw [impl_power.l0]) ?_
    unfold gpowL
    by_cases c : 0 < e
    · rw [if_pos c]
      have hb := gpow_sq hm hm2 hb0 hb1 b hb0 hb1
      have hr := gpow_sq hm hm2 hb0 hb1 r hr0 hr1
      have e2 : Int.tmod e 2 = e % 2 := Int.tmod_eq_emod_of_nonneg (by omega)
      have e3 : wrap64 (Int.tdiv e 2) = e / 2 := by rw [Int.tdiv_eq_ediv_of_nonneg (by omega), EvKit.w64 (by omega) (by omega)]
      have e4 : e / 2 < 2 ^ n := by have : (2 : Int) ^ (n + 1) = 2 ^ n * 2 := Int.pow_succ ..; omega
      rw [e2, e3, hb.1, hb.2.1, hr.1, hr.2.1]
      refine EvKit.itt c (EvKit.ite (fun h => ?_) (fun h => ?_))
      · rw [if_pos h]
        exact EvKit.itf (by omega) (impl_power.ev_l m hm hm2 n _ _ _ hb.2.2.1 hb.2.2.2 hr.2.2.1 hr.2.2.2 e4 (by omega))
      · rw [if_neg h]
        exact EvKit.itf (by omega) (impl_power.ev_l m hm hm2 n _ _ _ hb.2.2.1 hb.2.2.2 hr0 hr1 e4 (by omega))
    · rw [if_neg c]
      exact EvKit.itf (by omega) (EvKit.ret rfl)
theorem impl_power.ev (b e m : Int) (n : Nat) (hm : 1 < m) (hm2 : m ≤ 3000000000) (hb : 0 ≤ b) (he : e < 2 ^ n) (he2 : e ≤ 9223372036854775807) : Ev (fun k => impl_power.f k b e m) (gpowL m n (b % m) e 1) := by
  unfold impl_power.f
  refine EvKit.itf (by omega) ?_
  rw [Int.tmod_eq_emod_of_nonneg hb, show (1 : Int) % m = 1 from Int.emod_eq_of_lt (by omega) hm]
  exact impl_power.ev_l m hm hm2 n _ _ _ (Int.emod_nonneg _ (by omega)) (Int.emod_lt_of_pos _ (by omega)) (by omega) (by omega) he he2

/-! ### lagrange: inverses and weights in the field of 1019 -/
def invE (x : Int) : Int := if x % 1019 = 0 then 0 else gpowL 1019 10 (x % 1019) 1017 1
theorem inv_all : (List.range 1018).all (fun n => decide (1 ≤ gpowL 1019 10 ((n : Int) + 1) 1017 1 ∧ gpowL 1019 10 ((n : Int) + 1) 1017 1 ≤ 1018 ∧ ((n : Int) + 1) * gpowL 1019 10 ((n : Int) + 1) 1017 1 % 1019 = 1)) = true := by decide +kernel
theorem inv_ok (v : Int) (h0 : 1 ≤ v) (h1 : v ≤ 1018) : 1 ≤ gpowL 1019 10 v 1017 1 ∧ gpowL 1019 10 v 1017 1 ≤ 1018 ∧ v * gpowL 1019 10 v 1017 1 % 1019 = 1 := by
  have h := List.all_eq_true.mp inv_all (v.toNat - 1) (List.mem_range.mpr (by omega))
  have e : ((v.toNat - 1 : Nat) : Int) + 1 = v := by omega
  rw [e] at h
  exact of_decide_eq_true h
theorem inv_one {v x p : Int} (hx0 : 0 ≤ x) (hx1 : x ≤ 1018) (hp0 : 0 ≤ p) (hp1 : p ≤ 1018) (hx : v * x % 1019 = 1) (hp : v * p % 1019 = 1) : x = p := by
  have h1 : (x * (v * p)) % 1019 = x := by rw [Int.mul_emod, hp]; omega
  have h2 : ((v * x) * p) % 1019 = p := by rw [Int.mul_emod, hx]; omega
  rw [show x * (v * p) = v * x * p by rw [Int.mul_left_comm, Int.mul_assoc]] at h1
  omega
theorem invE_bd (x : Int) : 0 ≤ invE x ∧ invE x ≤ 1018 := by
  unfold invE
  by_cases h : x % 1019 = 0
  · rw [if_pos h]; omega
  · rw [if_neg h]; have := inv_ok (x % 1019) (by omega) (by omega); omega
theorem impl_InverseExponent.ev (x : Int) : Ev (fun k => impl_InverseExponent.f k x) (invE x) := by
  unfold impl_InverseExponent.f invE
  refine Ev.bind (impl_Mod.ev _ _) ?_
  rw [modI_pos _ (by omega) (by omega)]
  refine EvKit.ite (fun h => ?_) (fun h => ?_)
  · rw [if_pos h]; exact EvKit.ret rfl
  · rw [if_neg h]
    have h2 := impl_power.ev (x % 1019) 1017 1019 10 (by omega) (by omega) (by omega) (by omega) (by omega)
    rw [Int.emod_emod_of_dvd _ (Int.dvd_refl _)] at h2
    exact Ev.bind h2 (EvKit.ret rfl)
theorem spec_InverseExponent.ev_0 : ∀ (d x : Nat), 1019 - x = d → x ≤ 1019 → Ev (fun k => spec_InverseExponent.l0 k 0 (x : Int)) 0 := by
  intro d
  induction d with
  | zero =>
    intro x hd hx
    refine Ev.step (fun k => by rw [spec_InverseExponent.l0]) ?_
    exact EvKit.itf (by omega) (EvKit.ret rfl)
  | succ d ih =>
    intro x hd hx
    refine Ev.step (fun k => by rw [spec_InverseExponent.l0]) ?_
    rw [Int.zero_mul]
    refine EvKit.itt (by omega) (EvKit.itf (by rw [EvKit.w64 (by omega) (by omega)]; decide) ?_)
    rw [EvKit.w64 (n := (x : Int) + 1) (by omega) (by omega)]
    exact ih (x + 1) (by omega) (by omega)
theorem spec_InverseExponent.ev_1 (v p : Int) (hv0 : 0 ≤ v) (hv1 : v ≤ 1018) (hp0 : 1 ≤ p) (hp1 : p ≤ 1018) (hp : v * p % 1019 = 1) : ∀ (d : Nat) (x : Int), p - x = d → 1 ≤ x → Ev (fun k => spec_InverseExponent.l0 k v x) p := by
  intro d
  induction d with
  | zero =>
    intro x hd hx
    obtain rfl : x = p := by omega
    have h := gpow_sq (m := 1019) (by omega) (by omega) (by omega : 0 ≤ x) (by omega) v hv0 (by omega)
    refine Ev.step (fun k => by rw [spec_InverseExponent.l0]) ?_
    rw [h.1, h.2.1, hp]
    exact EvKit.itt (by omega) (EvKit.itt rfl (EvKit.ret rfl))
  | succ d ih =>
    intro x hd hx
    have h := gpow_sq (m := 1019) (by omega) (by omega) (by omega : 0 ≤ x) (by omega) v hv0 (by omega)
    refine Ev.step (fun k => by rw [spec_InverseExponent.l0]) ?_
    rw [h.1, h.2.1]
    refine EvKit.itt (by omega) (EvKit.itf (fun hx1 => ?_) ?_)
    · have := inv_one (by omega) (by omega) (by omega) hp1 hx1 hp; omega
    · rw [EvKit.w64 (n := x + 1) (by omega) (by omega)]
      exact ih (x + 1) (by omega) (by omega)
theorem spec_InverseExponent.ev (x : Int) : Ev (fun k => spec_InverseExponent.f k x) (invE x) := by
  unfold spec_InverseExponent.f invE
  refine EvKit.bnd (spec_Mod.eq _ _) ?_
  rw [modI_pos _ (by omega) (by omega)]
  by_cases h : x % 1019 = 0
  · rw [if_pos h, h]
    exact spec_InverseExponent.ev_0 _ 1 rfl (by omega)
  · rw [if_neg h]
    have h2 := inv_ok (x % 1019) (by omega) (by omega)
    exact spec_InverseExponent.ev_1 _ _ (by omega) (by omega) h2.1 h2.2.1 h2.2.2 (gpowL 1019 10 (x % 1019) 1017 1 - 1).toNat 1 (by omega) (by omega)
theorem spec_l5Mod.eq (x : Int) : spec_l5Mod.f x = some (x % 1019) := by
  unfold spec_l5Mod.f
  rw [spec_Mod.eq, Option.bind_some, modI_pos _ (by omega) (by omega)]
def dupF (l : List Int) (i : Nat) : Nat → Nat → Bool
  | 0, _ => false
  | d + 1, j => if rd l (j : Int) % 1019 = rd l (i : Int) % 1019 then true else dupF l i d (j + 1)
def wStep (l : List Int) (k at_ : Int) (w : Int) (i : Nat) : Int :=
  if (i : Int) = k then w else w * ((at_ % 1019 - rd l (i : Int) % 1019) % 1019) % 1019 * invE (rd l k % 1019 - rd l (i : Int) % 1019) % 1019
theorem wStep_bd (l : List Int) (k at_ w : Int) (i : Nat) (h0 : 0 ≤ w) (h1 : w < 1019) : 0 ≤ wStep l k at_ w i ∧ wStep l k at_ w i < 1019 := by
  unfold wStep
  split
  · exact ⟨h0, h1⟩
  · exact ⟨Int.emod_nonneg _ (by omega), Int.emod_lt_of_pos _ (by omega)⟩
def lagS (l : List Int) (k at_ : Int) : Nat → Nat → Int → Int
  | 0, _, w => w
  | n + 1, i, w => if dupF l i i 0 = true then 0 else lagS l k at_ n (i + 1) (wStep l k at_ w i)
def lagI (l : List Int) (k at_ : Int) : Nat → Nat → Int → Int
  | 0, _, w => w
  | n + 1, i, w => lagI l k at_ n (i + 1) (wStep l k at_ w i)
def anyDup (l : List Int) : Nat → Nat → Bool
  | 0, _ => false
  | n + 1, i => if dupF l i i 0 = true then true else anyDup l n (i + 1)
theorem lagS_eq (l : List Int) (k at_ : Int) : ∀ (n i : Nat) (w : Int), lagS l k at_ n i w = if anyDup l n i = true then 0 else lagI l k at_ n i w
  | 0, _, _ => rfl
  | n + 1, i, w => by
    unfold lagS anyDup lagI
    by_cases h : dupF l i i 0 = true
    · rw [if_pos h, if_pos h, if_pos rfl]
    · rw [if_neg h, if_neg h, lagS_eq l k at_ n (i + 1)]
def lagr (l : List Int) (k at_ : Int) : Int := if decide (0 ≤ k ∧ k ≤ (l.length : Int) - 1) = true then lagS l k at_ l.length 0 1 else 0
theorem wprod {w a b : Int} (h0 : 0 ≤ w) (h1 : w < 1019) (ha0 : 0 ≤ a) (ha1 : a < 1019) (hb0 : 0 ≤ b) (hb1 : b ≤ 1018) : Int.tmod (wrap64 ((Int.tmod (wrap64 (w * a)) 1019) * b)) 1019 = w * a % 1019 * b % 1019 := by
  have h := gpow_sq (m := 1019) (by omega) (by omega) ha0 ha1 w h0 h1
  rw [h.1, h.2.1]
  have h2 := gpow_sq (m := 1019) (by omega) (by omega) hb0 (by omega) (w * a % 1019) h.2.2.1 h.2.2.2
  rw [h2.1, h2.2.1]
theorem spec_LagrangeWeight.ev_1 (l : List Int) (k at_ w r : Int) (i : Nat) (hl : l.length ≤ 9223372036854775806) (hi : i < l.length) (hk0 : 0 ≤ k) (hk1 : k < (l.length : Int)) (hw0 : 0 ≤ w) (hw1 : w < 1019)
    (h : Ev (fun n => spec_LagrangeWeight.l0 n l k at_ (wStep l k at_ w i) ((i : Int) + 1)) r) : ∀ (d j : Nat), i - j = d → j ≤ i → Ev (fun n => spec_LagrangeWeight.l1 n l k at_ w (i : Int) (j : Int)) (if dupF l i d j = true then 0 else r) := by
  intro d
  induction d with
  | zero =>
    intro j hd hj
    refine Ev.step (fun k => by rw [spec_LagrangeWeight.l1]) ?_
    refine EvKit.itf (by omega) ?_
    rw [if_neg (by simp [dupF])]
    unfold wStep at h
    refine EvKit.ite (fun hk => ?_) (fun hk => ?_)
    · rw [if_pos hk] at h
      rw [EvKit.w64 (n := (i : Int) + 1) (by omega) (by omega)]
      exact h
    · rw [if_neg hk] at h
      refine EvKit.bnd (spec_l5Mod.eq _) (EvKit.itt (by omega) (EvKit.itt (by omega) (EvKit.bnd (spec_l5Mod.eq _) (EvKit.bnd (spec_l5Mod.eq _) (EvKit.itt (by omega) (EvKit.itt (by omega) (EvKit.bnd (spec_l5Mod.eq _) (EvKit.bnd (spec_l5Mod.eq _) (EvKit.bnd (spec_l5Mod.eq _) (Ev.bind (spec_InverseExponent.ev _) ?_))))))))))
      have e : invE (wrap64 (rd l k % 1019 - rd l (i : Int) % 1019) % 1019) = invE (rd l k % 1019 - rd l (i : Int) % 1019) := by
        rw [EvKit.w64 (by omega) (by omega)]
        unfold invE
        rw [Int.emod_emod_of_dvd _ (Int.dvd_refl _)]
      have hb := invE_bd (rd l k % 1019 - rd l (i : Int) % 1019)
      rw [e, EvKit.w64 (n := at_ % 1019 - rd l (i : Int) % 1019) (by omega) (by omega), wprod hw0 hw1 (by omega) (by omega) hb.1 hb.2, EvKit.w64 (n := (i : Int) + 1) (by omega) (by omega)]
      exact h
  | succ d ih =>
    intro j hd hj
    refine Ev.step (fun k => by rw [spec_LagrangeWeight.l1]) ?_
    refine EvKit.itt (by omega) (EvKit.itt (by omega) (EvKit.itt (by omega) (EvKit.bnd (spec_l5Mod.eq _) (EvKit.itt (by omega) (EvKit.itt (by omega) (EvKit.bnd (spec_l5Mod.eq _) ?_))))))
    unfold dupF
    refine EvKit.ite (fun hc => ?_) (fun hc => ?_)
    · rw [if_pos hc, if_pos rfl]; exact EvKit.ret rfl
    · rw [if_neg hc, EvKit.w64 (n := (j : Int) + 1) (by omega) (by omega)]
      exact ih (j + 1) (by omega) (by omega)
theorem spec_LagrangeWeight.ev_0 (l : List Int) (k at_ : Int) (hl : l.length ≤ 9223372036854775806) (hk0 : 0 ≤ k) (hk1 : k < (l.length : Int)) : ∀ (n i : Nat) (w : Int), l.length - i = n → i ≤ l.length → 0 ≤ w → w < 1019 → Ev (fun m => spec_LagrangeWeight.l0 m l k at_ w (i : Int)) (lagS l k at_ n i w) := by
  intro n
  induction n with
  | zero =>
    intro i w hd hi hw0 hw1
    refine Ev.step (fun k => by rw [spec_LagrangeWeight.l0]) ?_
    exact EvKit.itf (by omega) (EvKit.ret rfl)
  | succ n ih =>
    intro i w hd hi hw0 hw1
    have hb := wStep_bd l k at_ w i hw0 hw1
    refine Ev.step (fun k => by rw [spec_LagrangeWeight.l0]) ?_
    refine EvKit.itt (by omega) ?_
    unfold lagS
    exact spec_LagrangeWeight.ev_1 l k at_ w _ i hl (by omega) hk0 hk1 hw0 hw1 (ih (i + 1) _ (by omega) (by omega) hb.1 hb.2) i 0 (by omega) (by omega)
theorem spec_LagrangeWeight.ev (l : List Int) (k at_ : Int) (hl : l.length ≤ 9223372036854775806) : Ev (fun m => spec_LagrangeWeight.f m l k at_) (lagr l k at_) := by
  unfold spec_LagrangeWeight.f lagr
  rw [EvKit.w64 (n := (l.length : Int) - 1) (by omega) (by omega)]
  refine EvKit.bnd (spec_l1In.eq _ _ _) (EvKit.ite (fun h => ?_) (fun h => ?_))
  · rw [if_pos h]
    have h' := of_decide_eq_true h
    exact spec_LagrangeWeight.ev_0 l k at_ hl h'.1 (by omega) _ 0 1 (by omega) (by omega) (by omega) (by omega)
  · rw [if_neg h]; exact EvKit.ret rfl
theorem impl_Mod.evF (x : Int) : Ev (fun k => impl_Mod.f k x 1019) (x % 1019) := by
  have h := impl_Mod.ev x 1019
  rw [modI_pos _ (by omega) (by omega)] at h
  exact h
theorem impl_LagrangeWeight.ev_1 (l : List Int) (k at_ r : Int) (i : Nat) (hl : l.length ≤ 9223372036854775806) (hi : i < l.length)
    (h : Ev (fun n => impl_LagrangeWeight.l0 n l k at_ (l.length : Int) ((i : Int) + 1)) r) : ∀ (d j : Nat), i - j = d → j ≤ i → Ev (fun n => impl_LagrangeWeight.l1 n l k at_ (i : Int) (j : Int) (l.length : Int) (i : Int)) (if dupF l i d j = true then 0 else r) := by
  intro d
  induction d with
  | zero =>
    intro j hd hj
    refine Ev.step (fun k => by rw [impl_LagrangeWeight.l1]) ?_
    refine EvKit.itf (by omega) ?_
    rw [if_neg (by simp [dupF]), EvKit.w64 (n := (i : Int) + 1) (by omega) (by omega)]
    exact h
  | succ d ih =>
    intro j hd hj
    refine Ev.step (fun k => by rw [impl_LagrangeWeight.l1]) ?_
    refine EvKit.itt (by omega) (EvKit.itt (by omega) (EvKit.itt (by omega) (Ev.bind (impl_Mod.evF _) (EvKit.itt (by omega) (EvKit.itt (by omega) (Ev.bind (impl_Mod.evF _) ?_))))))
    unfold dupF
    refine EvKit.ite (fun hc => ?_) (fun hc => ?_)
    · rw [if_pos (show rd l (j : Int) % 1019 = rd l (i : Int) % 1019 from hc.symm), if_pos rfl]; exact EvKit.ret rfl
    · rw [if_neg (show ¬ rd l (j : Int) % 1019 = rd l (i : Int) % 1019 from fun z => hc z.symm), EvKit.w64 (n := (j : Int) + 1) (by omega) (by omega)]
      exact ih (j + 1) (by omega) (by omega)
theorem impl_LagrangeWeight.ev_2 (l : List Int) (k at_ : Int) (hl : l.length ≤ 9223372036854775806) : ∀ (n i : Nat) (w : Int), l.length - i = n → i ≤ l.length → 0 ≤ w → w < 1019 → Ev (fun m => impl_LagrangeWeight.l2 m l k at_ w (rd l k % 1019) (l.length : Int) (i : Int)) (lagI l k at_ n i w) := by
  intro n
  induction n with
  | zero =>
    intro i w hd hi hw0 hw1
    refine Ev.step (fun k => by rw [impl_LagrangeWeight.l2]) ?_
    exact EvKit.itf (by omega) (EvKit.ret rfl)
  | succ n ih =>
    intro i w hd hi hw0 hw1
    have hb := wStep_bd l k at_ w i hw0 hw1
    have hn := ih (i + 1) _ (by omega) (by omega) hb.1 hb.2
    refine Ev.step (fun k => by rw [impl_LagrangeWeight.l2]) ?_
    unfold lagI
    refine EvKit.itt (by omega) ?_
    rw [EvKit.w64 (n := (i : Int) + 1) (by omega) (by omega)]
    unfold wStep at hn ⊢
    refine EvKit.ite (fun hk => ?_) (fun hk => ?_)
    · rw [if_pos hk] at hn ⊢
      exact hn
    · rw [if_neg hk] at hn ⊢
      refine EvKit.itt (by omega) (EvKit.itt (by omega) (Ev.bind (impl_Mod.evF _) (Ev.bind (impl_Mod.evF _) (Ev.bind (impl_Mod.evF _) (Ev.bind (impl_InverseExponent.ev _) ?_)))))
      have hb := invE_bd (rd l k % 1019 - rd l (i : Int) % 1019)
      rw [EvKit.w64 (n := rd l k % 1019 - rd l (i : Int) % 1019) (by omega) (by omega), EvKit.w64 (n := at_ % 1019 - rd l (i : Int) % 1019) (by omega) (by omega), wprod hw0 hw1 (by omega) (by omega) hb.1 hb.2]
      exact hn
theorem impl_LagrangeWeight.ev_0 (l : List Int) (k at_ : Int) (hl : l.length ≤ 9223372036854775806) (hk0 : 0 ≤ k) (hk1 : k < (l.length : Int)) : ∀ (n i : Nat), l.length - i = n → i ≤ l.length → Ev (fun m => impl_LagrangeWeight.l0 m l k at_ (l.length : Int) (i : Int)) (if anyDup l n i = true then 0 else lagI l k at_ l.length 0 1) := by
  intro n
  induction n with
  | zero =>
    intro i hd hi
    refine Ev.step (fun k => by rw [impl_LagrangeWeight.l0]) ?_
    rw [if_neg (by simp [anyDup])]
    exact EvKit.itf (by omega) (EvKit.itt (by omega) (EvKit.itt (by omega) (Ev.bind (impl_Mod.evF _) (impl_LagrangeWeight.ev_2 l k at_ hl _ 0 1 (by omega) (by omega) (by omega) (by omega)))))
  | succ n ih =>
    intro i hd hi
    refine Ev.step (fun k => by rw [impl_LagrangeWeight.l0]) ?_
    refine EvKit.itt (by omega) ?_
    refine EvKit.ev_to (impl_LagrangeWeight.ev_1 l k at_ _ i hl (by omega) (ih (i + 1) (by omega) (by omega)) i 0 (by omega) (by omega)) ?_
    rw [anyDup]
    by_cases h : dupF l i i 0 = true
    · rw [if_pos h, if_pos h, if_pos rfl]
    · rw [if_neg h, if_neg h]
theorem impl_LagrangeWeight.ev (l : List Int) (k at_ : Int) (hl : l.length ≤ 9223372036854775806) : Ev (fun m => impl_LagrangeWeight.f m l k at_) (lagr l k at_) := by
  unfold impl_LagrangeWeight.f lagr
  refine EvKit.ite (fun h => ?_) (fun h => ?_)
  · refine Ev.step (fun k => by rw [impl_LagrangeWeight.j0]) ?_
    rw [if_neg (by simp; omega)]
    exact EvKit.itt rfl (EvKit.ret rfl)
  · refine Ev.step (fun k => by rw [impl_LagrangeWeight.j0]) ?_
    refine EvKit.ite (fun h2 => ?_) (fun h2 => ?_)
    · rw [if_neg (by simp at h2 ⊢; omega)]; exact EvKit.ret rfl
    · have h3 : k < (l.length : Int) := by simp at h2; omega
      rw [if_pos (by simp; omega), lagS_eq]
      exact impl_LagrangeWeight.ev_0 l k at_ hl (by omega) h3 _ 0 (by omega) (by omega)
theorem lagI_bd (l : List Int) (k at_ : Int) : ∀ (n i : Nat) (w : Int), 0 ≤ w → w < 1019 → 0 ≤ lagI l k at_ n i w ∧ lagI l k at_ n i w < 1019
  | 0, _, _, h0, h1 => ⟨h0, h1⟩
  | n + 1, i, w, h0, h1 => by
    have hb := wStep_bd l k at_ w i h0 h1
    unfold lagI
    exact lagI_bd l k at_ n (i + 1) _ hb.1 hb.2
theorem lagr_bd (l : List Int) (k at_ : Int) : 0 ≤ lagr l k at_ ∧ lagr l k at_ < 1019 := by
  unfold lagr
  split
  · rw [lagS_eq]
    split
    · omega
    · exact lagI_bd l k at_ _ _ _ (by omega) (by omega)
  · omega

theorem impl_InRange.eq (x a b : Int) : impl_InRange.f x a b = some (decide (a ≤ x ∧ x ≤ b)) := by
  unfold impl_InRange.f
  by_cases h : a ≤ x
  · rw [if_pos h]; simp [h]
  · rw [if_neg h]; simp [h]

/-! ### areshares: a list of shares: one to seven, each in its bounds, no index twice -/
def shareIn (s : S26) : Bool := decide (1 ≤ s.f0 ∧ s.f0 ≤ 7) && decide (0 ≤ s.f1 ∧ s.f1 ≤ 1018)
def shareNew (p : List S26) (s : S26) : Bool := p.all (fun t => !decide (t.f0 = s.f0))
def sharesFrom : List S26 → List S26 → Bool
  | _, [] => true
  | p, s :: l => shareIn s && (shareNew p s && sharesFrom (p ++ [s]) l)
def areShares (l : List S26) : Bool := decide (1 ≤ l.length ∧ l.length ≤ 7) && sharesFrom [] l
theorem impl_AreShares.all_eq : ∀ (l p : List S26) (seen : Nat → Bool), (∀ j : Int, 1 ≤ j → seen j.toNat = !(p.all (fun t => !decide (t.f0 = j)))) → (∀ t ∈ p, 1 ≤ t.f0) → impl_AreShares.all l seen = sharesFrom p l
  | [], _, _, _, _ => rfl
  | s :: l, p, seen, h, hp => by
    unfold impl_AreShares.all sharesFrom
    by_cases c : 1 ≤ s.f0 ∧ s.f0 ≤ 7 ∧ 0 ≤ s.f1 ∧ s.f1 ≤ 1018
    · have hs := h s.f0 c.1
      have hi : shareIn s = true := by simp [shareIn, c.1, c.2.1, c.2.2.1, c.2.2.2]
      rw [hi, Bool.true_and]
      by_cases d : seen s.f0.toNat = false
      · rw [if_pos ⟨c.1, c.2.1, c.2.2.1, c.2.2.2, d⟩, show shareNew p s = true from by rw [d] at hs; simpa [shareNew] using hs, Bool.true_and]
        refine impl_AreShares.all_eq l (p ++ [s]) _ (fun j hj => ?_) (fun t ht => ?_)
        · rw [h j hj, List.all_append, List.all_cons, List.all_nil]
          by_cases e : s.f0 = j
          · subst e; simp
          · rw [decide_eq_false (show ¬ j.toNat = s.f0.toNat by omega), decide_eq_false e]; simp
        · rcases List.mem_append.mp ht with z | z
          · exact hp t z
          · rw [List.mem_singleton.mp z]; exact c.1
      · rw [if_neg (fun z => d z.2.2.2.2), show shareNew p s = false from by rw [Bool.not_eq_false] at d; rw [d] at hs; simpa [shareNew] using hs, Bool.false_and]
    · rw [if_neg (fun z => c ⟨z.1, z.2.1, z.2.2.1, z.2.2.2.1⟩), show shareIn s = false from ?_, Bool.false_and]
      unfold shareIn
      by_cases e : 1 ≤ s.f0 ∧ s.f0 ≤ 7
      · rw [decide_eq_false (show ¬ (0 ≤ s.f1 ∧ s.f1 ≤ 1018) from fun z => c ⟨e.1, e.2, z.1, z.2⟩), Bool.and_false]
      · rw [decide_eq_false e, Bool.false_and]
theorem impl_AreShares.eq (l : List S26) : impl_AreShares.f l = some (areShares l) := by
  unfold impl_AreShares.f areShares
  by_cases c : 1 ≤ l.length ∧ l.length ≤ 7
  · rw [if_pos c, decide_eq_true c, Bool.true_and, impl_AreShares.all_eq l [] _ (fun _ _ => by simp) (fun _ h => by simp at h)]
  · rw [if_neg c, decide_eq_false c, Bool.false_and]
theorem spec_AreShares.ev_1 (p q : List S26) (s : S26) (r : Bool) (hn : (p ++ s :: q).length ≤ 9223372036854775806) (h : Ev (fun k => spec_AreShares.l0 k (p ++ s :: q) ((p.length : Int) + 1)) r) : ∀ (d j : Nat), p.length - j = d → j ≤ p.length → Ev (fun k => spec_AreShares.l1 k (p ++ s :: q) (p.length : Int) (j : Int)) ((p.drop j).all (fun t => !decide (t.f0 = s.f0)) && r) := by
  have hl : (p ++ s :: q).length = p.length + (q.length + 1) := by simp
  intro d
  induction d with
  | zero =>
    intro j hd hj
    refine Ev.step (fun k => by rw [spec_AreShares.l1]) ?_
    refine EvKit.itf (by omega) ?_
    rw [List.drop_eq_nil_of_le (by omega), List.all_nil, Bool.true_and, EvKit.w64 (by omega) (by omega)]
    exact h
  | succ d ih =>
    intro j hd hj
    refine Ev.step (fun k => by rw [spec_AreShares.l1]) ?_
    have hj' : j < p.length := by omega
    have e1 : rd_T26 (p ++ s :: q) (j : Int) = p[j] := by simp [rd_T26, List.getD, List.getElem?_append_left hj', hj']
    have e2 : rd_T26 (p ++ s :: q) (p.length : Int) = s := by simp [rd_T26, List.getD]
    refine EvKit.itt (by omega) (EvKit.itt (by omega) (EvKit.itt (by omega) (EvKit.itt (by omega) (EvKit.itt (by omega) ?_))))
    rw [e1, e2, List.drop_eq_getElem_cons hj', List.all_cons]
    refine EvKit.ite (fun hc => ?_) (fun hc => ?_)
    · rw [decide_eq_true hc]
      exact EvKit.ret rfl
    · rw [decide_eq_false hc, EvKit.w64 (n := (j : Int) + 1) (by omega) (by omega), Bool.not_false, Bool.true_and]
      exact ih (j + 1) (by omega) (by omega)
theorem spec_AreShares.ev_0 : ∀ (q p : List S26), (p ++ q).length ≤ 9223372036854775806 → Ev (fun k => spec_AreShares.l0 k (p ++ q) (p.length : Int)) (decide (1 ≤ (p ++ q).length ∧ (p ++ q).length ≤ 7) && sharesFrom p q)
  | [], p, hn => by
    rw [List.append_nil] at hn ⊢
    refine Ev.step (fun k => by rw [spec_AreShares.l0]) ?_
    refine EvKit.itf (by omega) ?_
    refine EvKit.bnd (spec_l1In.eq _ _ _) (EvKit.ret ?_)
    unfold sharesFrom
    rw [Bool.and_true]
    exact decide_eq_decide.mpr (by omega)
  | s :: q, p, hn => by
    have hl : (p ++ s :: q).length = p.length + (q.length + 1) := by simp
    have e2 : rd_T26 (p ++ s :: q) (p.length : Int) = s := by simp [rd_T26, List.getD]
    have ih := spec_AreShares.ev_0 q (p ++ [s]) (by simpa using hn)
    rw [show (p ++ [s]) ++ q = p ++ s :: q by simp, show (((p ++ [s]).length : Nat) : Int) = (p.length : Int) + 1 by simp] at ih
    refine Ev.step (fun k => by rw [spec_AreShares.l0]) ?_
    refine EvKit.itt (by omega) (EvKit.itt (by omega) ?_)
    rw [e2]
    refine EvKit.bnd (spec_l1In.eq _ _ _) ?_
    unfold sharesFrom shareIn
    refine EvKit.ite (fun hc => ?_) (fun hc => ?_)
    · rw [hc, Bool.true_and]
      refine EvKit.bnd (spec_l1In.eq _ _ _) ?_
      refine Ev.step (fun k => by rw [spec_AreShares.j1]) ?_
      refine EvKit.ite (fun hd => ?_) (fun hd => ?_)
      · rw [show decide (0 ≤ s.f1 ∧ s.f1 ≤ 1018) = false from Bool.eq_false_iff.mpr (fun z => by rw [z] at hd; cases hd), Bool.false_and, Bool.and_false]
        exact EvKit.ret rfl
      · rw [show decide (0 ≤ s.f1 ∧ s.f1 ≤ 1018) = true from Decidable.byContradiction (fun z => hd (by rw [Bool.eq_false_iff.mpr z]; rfl)), Bool.true_and]
        refine EvKit.ev_to (spec_AreShares.ev_1 p q s _ hn ih _ 0 rfl (by omega)) ?_
        unfold shareNew
        rw [List.drop_zero]
        cases List.all p _ <;> simp
    · rw [Bool.eq_false_iff.mpr hc]
      refine Ev.step (fun k => by rw [spec_AreShares.j1]) ?_
      refine EvKit.itt rfl (EvKit.ret ?_)
      simp
theorem spec_AreShares.ev (l : List S26) (hl : l.length ≤ 9223372036854775806) : Ev (fun k => spec_AreShares.f k l) (areShares l) := by
  unfold spec_AreShares.f
  exact spec_AreShares.ev_0 l [] (by simpa using hl)

/-! ### interpolate -/
theorem sharesFrom_in : ∀ (q p : List S26), sharesFrom p q = true → ∀ s ∈ q, 0 ≤ s.f1 ∧ s.f1 ≤ 1018
  | [], _, _, _, h => by simp at h
  | x :: q, p, h, s, hs => by
    unfold sharesFrom shareIn at h
    simp only [Bool.and_eq_true, decide_eq_true_eq] at h
    rcases List.mem_cons.mp hs with rfl | hs
    · exact h.1.2
    · exact sharesFrom_in q _ h.2.2 s hs
theorem areShares_in {l : List S26} (h : areShares l = true) : l.length ≤ 7 ∧ ∀ s ∈ l, 0 ≤ s.f1 ∧ s.f1 ≤ 1018 := by
  unfold areShares at h
  simp only [Bool.and_eq_true, decide_eq_true_eq] at h
  exact ⟨h.1.2, sharesFrom_in l [] h.2⟩
theorem rd_T26_drop (l : List S26) (i : Nat) (h : i < l.length) : l.drop i = rd_T26 l (i : Int) :: l.drop (i + 1) := by
  rw [List.drop_eq_getElem_cons h]
  simp [rd_T26, List.getD, List.getElem?_eq_getElem h]
theorem rd_T26_mem (l : List S26) (i : Nat) (h : i < l.length) : rd_T26 l (i : Int) ∈ l :=
  List.drop_subset i l (by rw [rd_T26_drop l i h]; exact List.mem_cons_self)
theorem spec_l5Indices.ev_l (l : List S26) (hl : l.length ≤ 7) : ∀ (n i : Nat) (p : List Int), l.length - i = n → i ≤ l.length → p.length = i → Ev (fun k => spec_l5Indices.l0 k l p (i : Int)) (p ++ (l.drop i).map (fun s => s.f0)) := by
  intro n
  induction n with
  | zero =>
    intro i p hd hi hp
    refine Ev.step (fun k => by rw [spec_l5Indices.l0]) ?_
    rw [List.drop_of_length_le (by omega)]
    exact EvKit.itf (by omega) (EvKit.ret (by simp))
  | succ n ih =>
    intro i p hd hi hp
    refine Ev.step (fun k => by rw [spec_l5Indices.l0]) ?_
    rw [rd_T26_drop l i (by omega), EvKit.w64 (n := (i : Int) + 1) (by omega) (by omega)]
    refine EvKit.itt (by omega) (EvKit.itt (by omega) (EvKit.itt (by omega) (EvKit.ev_to (ih (i + 1) (p ++ [(rd_T26 l (i : Int)).f0]) (by omega) (by omega) (by simp; omega)) ?_)))
    simp
theorem spec_l5Indices.ev (l : List S26) (hl : l.length ≤ 7) : Ev (fun k => spec_l5Indices.f k l) (l.map (fun s => s.f0)) := by
  unfold spec_l5Indices.f
  exact EvKit.ev_to (spec_l5Indices.ev_l l hl _ 0 [] rfl (by omega) rfl) (by simp)
def interpL (l : List S26) (at_ : Int) : Nat → Nat → Int → Int
  | 0, _, v => v
  | n + 1, i, v => interpL l at_ n (i + 1) ((v + (rd_T26 l (i : Int)).f1 * lagr (l.map (fun s => s.f0)) (i : Int) at_) % 1019)
def interpV (l : List S26) (at_ : Int) : Int × Bool := if areShares l = true then (interpL l at_ l.length 0 0, true) else (0, false)
theorem interp_w {v a b : Int} (hv0 : 0 ≤ v) (hv1 : v < 1019) (ha0 : 0 ≤ a) (ha1 : a ≤ 1018) (hb0 : 0 ≤ b) (hb1 : b < 1019) : Int.tmod (wrap64 (v + wrap64 (a * b))) 1019 = (v + a * b) % 1019 := by
  have h2 : 0 ≤ a * b := Int.mul_nonneg ha0 hb0
  have h3 : a * b ≤ 1018 * 1018 := Int.mul_le_mul ha1 (by omega) hb0 (by omega)
  rw [EvKit.w64 (n := a * b) (by omega) (by omega), EvKit.w64 (by omega) (by omega), Int.tmod_eq_emod_of_nonneg (by omega)]
theorem spec_Interpolate.ev_l (l : List S26) (at_ : Int) (hl : l.length ≤ 7) (hs : ∀ s ∈ l, 0 ≤ s.f1 ∧ s.f1 ≤ 1018) : ∀ (n i : Nat) (v : Int), l.length - i = n → i ≤ l.length → 0 ≤ v → v < 1019 → Ev (fun k => spec_Interpolate.l0 k l at_ v (i : Int)) (interpL l at_ n i v, true) := by
  intro n
  induction n with
  | zero =>
    intro i v hd hi h0 h1
    refine Ev.step (fun k => by rw [spec_Interpolate.l0]) ?_
    exact EvKit.itf (by omega) (EvKit.ret rfl)
  | succ n ih =>
    intro i v hd hi h0 h1
    have hm := hs _ (rd_T26_mem l i (by omega))
    have hb := lagr_bd (l.map (fun s => s.f0)) (i : Int) at_
    refine Ev.step (fun k => by rw [spec_Interpolate.l0]) ?_
    refine EvKit.itt (by omega) (EvKit.itt (by omega) (Ev.bind (spec_l5Indices.ev l hl) (Ev.bind (spec_LagrangeWeight.ev _ _ _ (by rw [List.length_map]; omega)) ?_)))
    rw [interp_w h0 h1 hm.1 hm.2 hb.1 hb.2, EvKit.w64 (n := (i : Int) + 1) (by omega) (by omega)]
    exact ih (i + 1) _ (by omega) (by omega) (Int.emod_nonneg _ (by omega)) (Int.emod_lt_of_pos _ (by omega))
theorem spec_Interpolate.ev (l : List S26) (at_ : Int) (hl : l.length ≤ 9223372036854775806) : Ev (fun k => spec_Interpolate.f k l at_) (interpV l at_) := by
  unfold spec_Interpolate.f interpV
  refine Ev.bind (spec_AreShares.ev l hl) (EvKit.ite (fun h => ?_) (fun h => ?_))
  · rw [if_pos h]
    have h2 := areShares_in h
    exact spec_Interpolate.ev_l l at_ h2.1 h2.2 _ 0 0 rfl (by omega) (by omega) (by omega)
  · rw [if_neg h]; exact EvKit.ret rfl
theorem impl_Interpolate.ev_1 (l : List S26) (at_ : Int) (hl : l.length ≤ 7) (hs : ∀ s ∈ l, 0 ≤ s.f1 ∧ s.f1 ≤ 1018) : ∀ (n i : Nat) (v : Int), l.length - i = n → i ≤ l.length → 0 ≤ v → v < 1019 → Ev (fun k => impl_Interpolate.l1 k at_ (l.map (fun s => s.f0)) v l (l.length : Int) (i : Int)) (interpL l at_ n i v, true) := by
  intro n
  induction n with
  | zero =>
    intro i v hd hi h0 h1
    refine Ev.step (fun k => by rw [impl_Interpolate.l1]) ?_
    exact EvKit.itf (by omega) (EvKit.ret rfl)
  | succ n ih =>
    intro i v hd hi h0 h1
    have hm := hs _ (rd_T26_mem l i (by omega))
    have hb := lagr_bd (l.map (fun s => s.f0)) (i : Int) at_
    refine Ev.step (fun k => by rw [impl_Interpolate.l1]) ?_
    refine EvKit.itt (by omega) (EvKit.itt (by omega) (EvKit.itt (by omega) (Ev.bind (impl_LagrangeWeight.ev _ _ _ (by rw [List.length_map]; omega)) ?_)))
    rw [interp_w h0 h1 hm.1 hm.2 hb.1 hb.2, EvKit.w64 (n := (i : Int) + 1) (by omega) (by omega)]
    exact ih (i + 1) _ (by omega) (by omega) (Int.emod_nonneg _ (by omega)) (Int.emod_lt_of_pos _ (by omega))
theorem impl_Interpolate.ev_0 (l : List S26) (at_ : Int) (hl : l.length ≤ 7) (hs : ∀ s ∈ l, 0 ≤ s.f1 ∧ s.f1 ≤ 1018) : ∀ (n i : Nat) (p : List Int), l.length - i = n → i ≤ l.length → p.length = i → p ++ (l.drop i).map (fun s => s.f0) = l.map (fun s => s.f0) → Ev (fun k => impl_Interpolate.l0 k l at_ p l (l.length : Int) (i : Int)) (interpL l at_ l.length 0 0, true) := by
  intro n
  induction n with
  | zero =>
    intro i p hd hi hp he
    refine Ev.step (fun k => by rw [impl_Interpolate.l0]) ?_
    rw [List.drop_of_length_le (by omega), List.map_nil, List.append_nil] at he
    rw [he]
    exact EvKit.itf (by omega) (impl_Interpolate.ev_1 l at_ hl hs _ 0 0 rfl (by omega) (by omega) (by omega))
  | succ n ih =>
    intro i p hd hi hp he
    refine Ev.step (fun k => by rw [impl_Interpolate.l0]) ?_
    rw [rd_T26_drop l i (by omega)] at he
    rw [EvKit.w64 (n := (i : Int) + 1) (by omega) (by omega)]
    exact EvKit.itt (by omega) (EvKit.itt (by omega) (EvKit.itt (by omega) (EvKit.itt (by omega) (ih (i + 1) (p ++ [(rd_T26 l (i : Int)).f0]) (by omega) (by omega) (by simp; omega) (by simpa using he)))))
theorem impl_Interpolate.ev (l : List S26) (at_ : Int) : Ev (fun k => impl_Interpolate.f k l at_) (interpV l at_) := by
  unfold impl_Interpolate.f interpV
  refine EvKit.bnd (impl_AreShares.eq l) (EvKit.ite (fun h => ?_) (fun h => ?_))
  · rw [if_pos h]
    have h2 := areShares_in h
    exact impl_Interpolate.ev_0 l at_ h2.1 h2.2 _ 0 [] rfl (by omega) rfl (by simp)
  · rw [if_neg h]; exact EvKit.ret rfl

def markV (epoch guesses : Int) : Int := wrap64 (wrap64 (epoch * 1000) + guesses)
theorem spec_StartHost.eq (a b c d e : Int) : spec_StartHost.f a b c d e = some (a, b, c, d, e, [], markV c d) := rfl
theorem impl_StartHost.eq (a b c d e : Int) : impl_StartHost.f a b c d e = some (a, b, c, d, e, [], markV c d) := rfl

/-! ### has: is a number in a list -/
theorem rd_dropN (l : List Int) (i : Nat) (h : i < l.length) : l.drop i = rd l (i : Int) :: l.drop (i + 1) := by
  rw [List.drop_eq_getElem_cons h]
  simp [rd, List.getD, List.getElem?_eq_getElem h]
def hasB : List Int → Int → Bool
  | [], _ => false
  | x :: l, v => if x = v then true else hasB l v
theorem impl_has.ev (l : List Int) (v : Int) (hl : l.length ≤ 9223372036854775806) : Ev (fun k => impl_has.f k l v) (hasB l v) := by
  unfold impl_has.f
  have h : ∀ (d i : Nat), l.length - i = d → i ≤ l.length → Ev (fun k => impl_has.l0 k v l (l.length : Int) (i : Int)) (hasB (l.drop i) v) := by
    intro d
    induction d with
    | zero =>
      intro i hd hi
      refine Ev.step (fun k => by rw [impl_has.l0]) ?_
      rw [List.drop_of_length_le (by omega)]
      exact EvKit.itf (by omega) (EvKit.ret rfl)
    | succ d ih =>
      intro i hd hi
      refine Ev.step (fun k => by rw [impl_has.l0]) ?_
      rw [rd_dropN l i (by omega), hasB, EvKit.w64 (n := (i : Int) + 1) (by omega) (by omega)]
      refine EvKit.itt (by omega) (EvKit.itt (by omega) (EvKit.itt (by omega) (EvKit.ite (fun h => ?_) (fun h => ?_))))
      · rw [if_pos h]; exact EvKit.ret rfl
      · rw [if_neg h]; exact ih (i + 1) (by omega) (by omega)
  exact h _ 0 rfl (by omega)

/-! ### markKeeperS and heldKeeperS -/
def markKeeperL : Int → List S28 → List S28
  | _, [] => []
  | v, _ :: l => (⟨(⟨v, v + 1⟩ : S26), v + 2, v + 3, v + 4⟩ : S28) :: markKeeperL (v + 5) l
theorem markKeeperL_len : ∀ (l : List S28) (v : Int), (markKeeperL v l).length = l.length
  | [], _ => rfl
  | _ :: l, v => by simp [markKeeperL, markKeeperL_len l]
theorem rd_T28_at (p : List S28) (x : S28) (q : List S28) : rd_T28 (p ++ x :: q) (p.length : Int) = x := by simp [rd_T28]
theorem laws_markKeeperS.ev_l : ∀ (q p : List S28) (v : Int) (i : Nat), i = p.length → 0 ≤ v → v + 5 * (q.length : Int) ≤ 4611686018427387904 → p.length + q.length ≤ 4611686018427387904 →
    Ev (fun k => laws_markKeeperS.l0 k (p ++ q) v (i : Int)) (v + 5 * (q.length : Int), p ++ markKeeperL v q) := by
  intro q
  induction q with
  | nil =>
    intro p v i hi h0 h1 h2
    subst hi
    refine Ev.step (fun k => by rw [laws_markKeeperS.l0]) ?_
    exact EvKit.itf (by simp) (EvKit.ret (by simp [markKeeperL]))
  | cons x q ih =>
    intro p v i hi h0 h1 h2
    subst hi
    simp only [List.length_cons] at h1 h2
    have e1 : wrap64 (v + 1) = v + 1 := EvKit.w64 (by omega) (by omega)
    have e2 : wrap64 (v + 2) = v + 2 := EvKit.w64 (by omega) (by omega)
    have e3 : wrap64 (v + 3) = v + 3 := EvKit.w64 (by omega) (by omega)
    have e4 : wrap64 (v + 4) = v + 4 := EvKit.w64 (by omega) (by omega)
    have e5 : wrap64 (v + 5) = v + 5 := EvKit.w64 (by omega) (by omega)
    have ep : wrap64 ((p.length : Int) + 1) = (p.length : Int) + 1 := EvKit.w64 (by omega) (by omega)
    refine Ev.step (fun k => by rw [laws_markKeeperS.l0]) ?_
    refine EvKit.itt (by simp only [List.length_append, List.length_cons]; omega) (EvKit.itt (by omega) ?_)
    simp only [Option.bind_some, ListKit.set_at, rd_T28_at, ListKit.w64w, Int.add_assoc, Int.reduceAdd, e1, e2, e3, e4, e5, ep]
    rw [ListKit.shift p _ q]
    refine EvKit.ev_to (ih (p ++ [_]) (v + 5) (p.length + 1) (by simp) (by omega) (by omega) (by simp only [List.length_append, List.length_cons, List.length_nil]; omega)) ?_
    simp only [markKeeperL, List.append_assoc, List.cons_append, List.nil_append, List.length_cons]
    refine Prod.ext ?_ rfl
    show v + 5 + 5 * (q.length : Int) = v + 5 * ((q.length + 1 : Nat) : Int)
    omega
theorem laws_markKeeperS.ev (l : List S28) (v : Int) (h0 : 0 ≤ v) (h1 : v + 5 * (l.length : Int) ≤ 4611686018427387904) : Ev (fun k => laws_markKeeperS.f k l v) (v + 5 * (l.length : Int), markKeeperL v l) := by
  unfold laws_markKeeperS.f
  exact laws_markKeeperS.ev_l l [] v 0 rfl h0 h1 (by simp; omega)

/-! ### marks of lists of hosts -/
def savedSz : List S31 → Nat
  | [] => 0
  | x :: l => x.f1.length + savedSz l
theorem savedSz_map : ∀ l : List S50, savedSz (l.map toKeeperHostC) = szHosts l
  | [] => rfl
  | x :: l => by simp only [List.map_cons, savedSz, szHosts, savedSz_map l, toKeeperHostC, List.length_map]
def markHostL : Int → List S31 → List S31
  | _, [] => []
  | v, x :: l => (⟨(⟨(⟨v, v + 1⟩ : S26), v + 2, v + 3, v + 4⟩ : S28), markKeeperL (v + 5) x.f1, v + 5 + 5 * (x.f1.length : Int)⟩ : S31) :: markHostL (v + 6 + 5 * (x.f1.length : Int)) l
theorem laws_markKeeperHostS.ev_g : ∀ (l : List S31) (v : Int), 0 ≤ v → v + 6 * (l.length : Int) + 5 * (savedSz l : Int) ≤ 4611686018427387904 → Ev (fun k => laws_markKeeperHostS.go k l v) (v + 6 * (l.length : Int) + 5 * (savedSz l : Int), markHostL v l)
  | [], v, _, _ => EvKit.ret (by simp [savedSz, markHostL])
  | x :: l, v, h0, h1 => by
    simp only [List.length_cons, savedSz] at h1
    have e1 : wrap64 (v + 1) = v + 1 := EvKit.w64 (by omega) (by omega)
    have e2 : wrap64 (v + 2) = v + 2 := EvKit.w64 (by omega) (by omega)
    have e3 : wrap64 (v + 3) = v + 3 := EvKit.w64 (by omega) (by omega)
    have e4 : wrap64 (v + 4) = v + 4 := EvKit.w64 (by omega) (by omega)
    have e5 : wrap64 (v + 5) = v + 5 := EvKit.w64 (by omega) (by omega)
    have e6 : wrap64 (v + 5 + 5 * (x.f1.length : Int) + 1) = v + 6 + 5 * (x.f1.length : Int) := by rw [EvKit.w64 (by omega) (by omega)]; omega
    simp only [laws_markKeeperHostS.go, ListKit.w64w, Int.add_assoc, Int.reduceAdd, e1, e2, e3, e4, e5]
    refine Ev.bind (laws_markKeeperS.ev x.f1 (v + 5) (by omega) (by omega)) ?_
    simp only [Int.add_assoc] at e6 ⊢
    rw [e6]
    refine Ev.bind (laws_markKeeperHostS.ev_g l (v + (6 + 5 * (x.f1.length : Int))) (by omega) (by omega)) (EvKit.ret ?_)
    simp only [markHostL, savedSz, List.length_cons, Int.add_assoc]
    refine Prod.ext ?_ rfl
    dsimp only
    omega
theorem laws_markKeeperHostS.ev (l : List S31) (v : Int) (h0 : 0 ≤ v) (h1 : v + 6 * (l.length : Int) + 5 * (savedSz l : Int) ≤ 4611686018427387904) : Ev (fun k => laws_markKeeperHostS.f k l v) (v + 6 * (l.length : Int) + 5 * (savedSz l : Int), markHostL v l) := by
  unfold laws_markKeeperHostS.f
  exact EvKit.itt (by omega) (laws_markKeeperHostS.ev_g l v h0 h1)

/-! ### ReplaceHost -/
def goodH (n idx : Int) : List Int → Bool
  | [] => true
  | h :: w => if decide (0 ≤ h ∧ h ≤ n - 1) = true then (if h = idx then false else goodH n idx w) else false
def replE (l : List S31) (idx : Int) (w : List Int) : List S31 × Bool :=
  if decide (0 ≤ idx ∧ idx ≤ (l.length : Int) - 1) = true then (if (interpV (stolenL l w) (rd_T31 l idx).f0.f0.f0).2 = true then (l.set idx.toNat (⟨(⟨(⟨(rd_T31 l idx).f0.f0.f0, (interpV (stolenL l w) (rd_T31 l idx).f0.f0.f0).1⟩ : S26), (rd_T31 l idx).f0.f1, (rd_T31 l idx).f0.f2, (rd_T31 l idx).f0.f3⟩ : S28), [], markV (rd_T31 l idx).f0.f1 (rd_T31 l idx).f0.f2⟩ : S31), true) else (l, false)) else (l, false)
def replV (l : List S31) (idx : Int) (w : List Int) : List S31 × Bool := if goodH (l.length : Int) idx w = true then replE l idx w else (l, false)
theorem goodH_has (n idx : Int) : ∀ w, hasB w idx = true → goodH n idx w = false
  | [], h => by simp [hasB] at h
  | x :: w, h => by
    unfold hasB at h
    unfold goodH
    by_cases c : x = idx
    · rw [if_pos c]; split <;> rfl
    · rw [if_neg c] at h
      rw [if_neg c, goodH_has n idx w h]; split <;> rfl
theorem spec_ReplaceHost.ev_l (l : List S31) (idx : Int) (w : List Int) (hl : l.length ≤ 1048576) (hw : w.length ≤ 1048576) : ∀ (n i : Nat), w.length - i = n → i ≤ w.length → Ev (fun k => spec_ReplaceHost.l0 k l idx w l (i : Int)) (if goodH (l.length : Int) idx (w.drop i) = true then replE l idx w else (l, false)) := by
  intro n
  have ls := stolenL_len l w
  induction n with
  | zero =>
    intro i hd hi
    refine Ev.step (fun k => by rw [spec_ReplaceHost.l0]) ?_
    rw [List.drop_of_length_le (by omega), goodH, if_pos rfl, EvKit.w64 (n := (l.length : Int) - 1) (by omega) (by omega)]
    refine EvKit.itf (by omega) (EvKit.bnd (spec_l1In.eq _ _ _) ?_)
    unfold replE
    refine EvKit.ite (fun h => ?_) (fun h => ?_)
    · rw [if_pos h]
      have h' := of_decide_eq_true h
      refine EvKit.itt (by omega) (EvKit.itt (by omega) (Ev.bind (spec_StolenShares.ev l w hl hw) (Ev.bind (spec_Interpolate.ev _ _ (by omega)) (EvKit.ite (fun h2 => ?_) (fun h2 => ?_)))))
      · rw [if_pos h2]
        exact EvKit.bnd (spec_StartHost.eq _ _ _ _ _) (EvKit.itt (by omega) (EvKit.ret rfl))
      · rw [if_neg h2]; exact EvKit.ret rfl
    · rw [if_neg h]; exact EvKit.ret rfl
  | succ n ih =>
    intro i hd hi
    refine Ev.step (fun k => by rw [spec_ReplaceHost.l0]) ?_
    rw [rd_dropN w i (by omega), goodH, EvKit.w64 (n := (i : Int) + 1) (by omega) (by omega), EvKit.w64 (n := (l.length : Int) - 1) (by omega) (by omega)]
    refine EvKit.itt (by omega) (EvKit.itt (by omega) (EvKit.bnd (spec_l1In.eq _ _ _) (EvKit.ite (fun h => ?_) (fun h => ?_))))
    · rw [if_pos h]
      refine EvKit.ite (fun h2 => ?_) (fun h2 => ?_)
      · rw [if_pos h2]; exact EvKit.ret rfl
      · rw [if_neg h2]; exact ih (i + 1) (by omega) (by omega)
    · rw [if_neg h]; exact EvKit.ret rfl
theorem spec_ReplaceHost.ev (l : List S31) (idx : Int) (w : List Int) (hl : l.length ≤ 1048576) (he : ∀ x ∈ l, x.f1.length ≤ 1048576) (hw : w.length ≤ 1048576) : Ev (fun k => spec_ReplaceHost.f k l idx w) (replV l idx w) := by
  unfold spec_ReplaceHost.f replV
  exact Ev.bind (spec_l25Hosts.ev l hl he) (spec_ReplaceHost.ev_l l idx w hl hw _ 0 rfl (by omega))
theorem impl_ReplaceHost.ev_l (l : List S31) (idx : Int) (w : List Int) (hl : l.length ≤ 1048576) (hw : w.length ≤ 1048576) (h0 : 0 ≤ idx) (h1 : idx < (l.length : Int)) : ∀ (n i : Nat), w.length - i = n → i ≤ w.length → hasB (w.drop i) idx = false → Ev (fun k => impl_ReplaceHost.l0 k l idx w l w (w.length : Int) (i : Int)) (if goodH (l.length : Int) idx (w.drop i) = true then replE l idx w else (l, false)) := by
  intro n
  induction n with
  | zero =>
    intro i hd hi hh
    refine Ev.step (fun k => by rw [impl_ReplaceHost.l0]) ?_
    rw [List.drop_of_length_le (by omega), goodH, if_pos rfl]
    unfold replE
    rw [if_pos (decide_eq_true (by omega))]
    refine EvKit.itf (by omega) (EvKit.itt h0 (EvKit.itt h1 (Ev.bind (impl_StolenShares.ev l w hl hw) (Ev.bind (impl_Interpolate.ev _ _) (EvKit.ite (fun h2 => ?_) (fun h2 => ?_))))))
    · rw [if_pos h2]
      exact EvKit.bnd (impl_StartHost.eq _ _ _ _ _) (EvKit.itt h1 (EvKit.ret rfl))
    · rw [if_neg h2]; exact EvKit.ret rfl
  | succ n ih =>
    intro i hd hi hh
    refine Ev.step (fun k => by rw [impl_ReplaceHost.l0]) ?_
    rw [rd_dropN w i (by omega), hasB] at hh
    rw [rd_dropN w i (by omega), goodH, EvKit.w64 (n := (i : Int) + 1) (by omega) (by omega)]
    by_cases h2 : rd w (i : Int) = idx
    · rw [if_pos h2] at hh; cases hh
    rw [if_neg h2] at hh
    refine EvKit.itt (by omega) (EvKit.itt (by omega) (EvKit.itt (by omega) (EvKit.ite (fun h => ?_) (fun h => EvKit.ite (fun h3 => ?_) (fun h3 => ?_)))))
    · rw [if_neg (by simp; omega)]; exact EvKit.ret rfl
    · rw [if_neg (by simp; omega)]; exact EvKit.ret rfl
    · rw [if_pos (decide_eq_true (by omega)), if_neg h2]; exact ih (i + 1) (by omega) (by omega) hh
theorem replV_bad (l : List S31) (idx : Int) (w : List Int) (h : ¬ (0 ≤ idx ∧ idx ≤ (l.length : Int) - 1)) : replV l idx w = (l, false) := by
  unfold replV replE
  by_cases g : goodH (l.length : Int) idx w = true
  · rw [if_pos g, if_neg (by simpa using h)]
  · rw [if_neg g]
theorem impl_ReplaceHost.ev (l : List S31) (idx : Int) (w : List Int) (hl : l.length ≤ 1048576) (he : ∀ x ∈ l, x.f1.length ≤ 1048576) (hw : w.length ≤ 1048576) : Ev (fun k => impl_ReplaceHost.f k l idx w) (replV l idx w) := by
  unfold impl_ReplaceHost.f
  have j : Ev (fun k => impl_ReplaceHost.j0 k l idx w l true) (l, false) := by
    refine Ev.step (fun k => by rw [impl_ReplaceHost.j0]) ?_
    exact EvKit.itt rfl (EvKit.ret rfl)
  refine Ev.bind (impl_copyHosts.ev l hl he) (EvKit.ite (fun h => ?_) (fun h => EvKit.ite (fun h2 => ?_) (fun h2 => Ev.bind (impl_has.ev w idx (by omega)) ?_)))
  · rw [replV_bad l idx w (by omega)]; exact j
  · rw [replV_bad l idx w (by omega)]; exact j
  · refine Ev.step (fun k => by rw [impl_ReplaceHost.j0]) ?_
    by_cases h3 : hasB w idx = true
    · refine EvKit.itt h3 (EvKit.ret ?_)
      unfold replV
      rw [goodH_has _ _ _ h3, if_neg (by simp)]
    · refine EvKit.itf h3 ?_
      exact impl_ReplaceHost.ev_l l idx w hl hw (by omega) (by omega) _ 0 rfl (by omega) (by simpa using h3)
theorem set_le {l : List S31} {m : Nat} {x : S31} (i : Nat) (hl : ∀ y ∈ l, y.f1.length ≤ m) (hx : x.f1.length ≤ m) : ∀ y ∈ l.set i x, y.f1.length ≤ m := by
  intro y hy
  rcases List.mem_or_eq_of_mem_set hy with h | h
  · exact hl y h
  · rw [h]; exact hx
theorem replV_len (l : List S31) (idx : Int) (w : List Int) : (replV l idx w).1.length = l.length := by
  unfold replV replE
  (repeat' split) <;> simp
theorem replV_le (l : List S31) (idx : Int) (w : List Int) (m : Nat) (hl : ∀ y ∈ l, y.f1.length ≤ m) : ∀ y ∈ (replV l idx w).1, y.f1.length ≤ m := by
  unfold replV replE
  (repeat' split)
  · exact set_le _ hl (by simp)
  · exact hl
  · exact hl
  · exact hl
theorem savedSz_set : ∀ (l : List S31) (i : Nat) (x : S31), savedSz (l.set i x) ≤ savedSz l + x.f1.length
  | [], _, _ => by simp [savedSz]
  | y :: l, 0, x => by simp only [List.set_cons_zero, savedSz]; omega
  | y :: l, i + 1, x => by simp only [List.set_cons_succ, savedSz]; have := savedSz_set l i x; omega
theorem replV_sz (l : List S31) (idx : Int) (w : List Int) : savedSz (replV l idx w).1 ≤ savedSz l := by
  unfold replV replE
  (repeat' split)
  · refine Nat.le_trans (savedSz_set _ _ _) ?_
    simp
  · exact Nat.le_refl _
  · exact Nat.le_refl _
  · exact Nat.le_refl _

theorem hosts_len {l : List S50} (h : szHosts l ≤ 1048576) : ∀ x ∈ l.map toKeeperHostC, x.f1.length ≤ 9223372036854775806 := by
  intro x hx
  obtain ⟨y, hy, rfl⟩ := List.mem_map.1 hx
  have := szHosts_mem hy
  simp only [toKeeperHostC, List.length_map]
  omega

theorem rd_at_ (p : List Int) (x : Int) (q : List Int) (i : Nat) (hi : i = p.length) : rd (p ++ x :: q) (i : Int) = x := by subst hi; simp [rd]

/-! ### lists of numbers: toIntS, eqIntS -/
theorem laws_toIntS.ev_l : ∀ (q p : List Int) (i : Nat), i = p.length → p.length + q.length ≤ 4611686018427387904 →
    Ev (fun k => laws_toIntS.l0 k (p ++ q) (p ++ List.replicate q.length 0) (i : Int)) (p ++ q) := by
  intro q
  induction q with
  | nil =>
    intro p i hi h
    refine Ev.step (fun k => by rw [laws_toIntS.l0]) ?_
    exact EvKit.itf (by simp; omega) (EvKit.ret (by simp))
  | cons x q ih =>
    intro p i hi h
    simp only [List.length_cons] at h
    refine Ev.step (fun k => by rw [laws_toIntS.l0]) ?_
    refine EvKit.itt (by simp only [List.length_append, List.length_cons]; omega) (EvKit.itt (by omega) ?_)
    rw [rd_at_ p x q i hi]
    refine EvKit.itt (by simp only [List.length_append, List.length_replicate, List.length_cons]; omega) ?_
    rw [EvKit.w64 (n := (i : Int) + 1) (by omega) (by omega)]
    have e : (p ++ List.replicate (x :: q).length 0).set (i : Int).toNat x = (p ++ [x]) ++ List.replicate q.length 0 := by
      rw [List.length_cons, List.replicate_succ]
      have h2 := ListKit.set_at p 0 x (List.replicate q.length 0)
      rw [← hi] at h2
      rw [h2]
      simp
    have e2 : p ++ x :: q = (p ++ [x]) ++ q := by simp
    refine EvKit.ev_to (Ev.congr (fun k => ?_) (ih (p ++ [x]) (i + 1) (by simp; omega) (by simp only [List.length_append, List.length_cons, List.length_nil]; omega))) (by rw [e2])
    rw [← e, ← e2]
    rfl
theorem laws_toIntS.ev (l : List Int) (hl : l.length ≤ 1048576) : Ev (fun k => laws_toIntS.f k l) l := by
  unfold laws_toIntS.f
  exact EvKit.itt (by omega) (EvKit.itt (by omega) (laws_toIntS.ev_l l [] 0 rfl (by simp; omega)))
theorem laws_eqIntS.ev_l (l : List Int) (hl : l.length ≤ 9223372036854775806) : ∀ (d i : Nat), l.length - i = d → i ≤ l.length → Ev (fun k => laws_eqIntS.l0 k l l (i : Int)) true := by
  intro d
  induction d with
  | zero =>
    intro i hd hi
    refine Ev.step (fun k => by rw [laws_eqIntS.l0]) ?_
    exact EvKit.itf (by omega) (EvKit.ret rfl)
  | succ d ih =>
    intro i hd hi
    refine Ev.step (fun k => by rw [laws_eqIntS.l0]) ?_
    refine EvKit.itt (by omega) (EvKit.itt (by omega) (EvKit.itt (by omega) (EvKit.itt rfl ?_)))
    rw [EvKit.w64 (n := (i : Int) + 1) (by omega) (by omega)]
    exact ih (i + 1) (by omega) (by omega)
theorem laws_eqIntS.ev (l : List Int) (hl : l.length ≤ 9223372036854775806) : Ev (fun k => laws_eqIntS.f k l l) true := by
  unfold laws_eqIntS.f
  exact EvKit.itt rfl (laws_eqIntS.ev_l l hl _ 0 rfl (by omega))

/-! ### markIntS -/
def markIntL : Int → List Int → List Int
  | _, [] => []
  | v, _ :: l => v :: markIntL (v + 1) l
theorem laws_markIntS.ev_l : ∀ (q p : List Int) (v : Int) (i : Nat), i = p.length → 0 ≤ v → v + (q.length : Int) ≤ 4611686018427387904 → p.length + q.length ≤ 4611686018427387904 →
    Ev (fun k => laws_markIntS.l0 k (p ++ q) v (i : Int)) (v + (q.length : Int), p ++ markIntL v q) := by
  intro q
  induction q with
  | nil =>
    intro p v i hi h0 h1 h2
    subst hi
    refine Ev.step (fun k => by rw [laws_markIntS.l0]) ?_
    exact EvKit.itf (by simp) (EvKit.ret (by simp [markIntL]))
  | cons x q ih =>
    intro p v i hi h0 h1 h2
    subst hi
    simp only [List.length_cons] at h1 h2
    have e1 : wrap64 (v + 1) = v + 1 := EvKit.w64 (by omega) (by omega)
    have ep : wrap64 ((p.length : Int) + 1) = (p.length : Int) + 1 := EvKit.w64 (by omega) (by omega)
    refine Ev.step (fun k => by rw [laws_markIntS.l0]) ?_
    refine EvKit.itt (by simp only [List.length_append, List.length_cons]; omega) (EvKit.itt (by omega) ?_)
    simp only [ListKit.set_at, e1, ep]
    rw [ListKit.shift p _ q]
    refine EvKit.ev_to (ih (p ++ [_]) (v + 1) (p.length + 1) (by simp) (by omega) (by omega) (by simp only [List.length_append, List.length_cons, List.length_nil]; omega)) ?_
    simp only [markIntL, List.append_assoc, List.cons_append, List.nil_append, List.length_cons]
    refine Prod.ext ?_ rfl
    show v + 1 + (q.length : Int) = v + ((q.length + 1 : Nat) : Int)
    omega
theorem laws_markIntS.ev (l : List Int) (v : Int) (h0 : 0 ≤ v) (h1 : v + (l.length : Int) ≤ 4611686018427387904) : Ev (fun k => laws_markIntS.f k l v) (v + (l.length : Int), markIntL v l) := by
  unfold laws_markIntS.f
  exact laws_markIntS.ev_l l [] v 0 rfl h0 h1 (by simp; omega)

theorem laws_heldKeeperS.ev_l : ∀ (q p : List S28) (v : Int) (i : Nat), i = p.length → 0 ≤ v → v + 5 * (q.length : Int) ≤ 4611686018427387904 → p.length + q.length ≤ 4611686018427387904 →
    Ev (fun k => laws_heldKeeperS.l0 k (p ++ markKeeperL v q) v (i : Int)) (v + 5 * (q.length : Int)) := by
  intro q
  induction q with
  | nil =>
    intro p v i hi h0 h1 h2
    subst hi
    refine Ev.step (fun k => by rw [laws_heldKeeperS.l0]) ?_
    exact EvKit.itf (by simp [markKeeperL]) (EvKit.ret (by simp))
  | cons x q ih =>
    intro p v i hi h0 h1 h2
    subst hi
    simp only [List.length_cons] at h1 h2
    have e1 : wrap64 (v + 1) = v + 1 := EvKit.w64 (by omega) (by omega)
    have e2 : wrap64 (v + 2) = v + 2 := EvKit.w64 (by omega) (by omega)
    have e3 : wrap64 (v + 3) = v + 3 := EvKit.w64 (by omega) (by omega)
    have e4 : wrap64 (v + 4) = v + 4 := EvKit.w64 (by omega) (by omega)
    have e5 : wrap64 (v + 5) = v + 5 := EvKit.w64 (by omega) (by omega)
    have ep : wrap64 ((p.length : Int) + 1) = (p.length : Int) + 1 := EvKit.w64 (by omega) (by omega)
    simp only [markKeeperL]
    refine Ev.step (fun k => by rw [laws_heldKeeperS.l0]) ?_
    refine EvKit.itt (by simp only [List.length_append, List.length_cons]; omega) (EvKit.itt (by omega) ?_)
    simp only [rd_T28_at, ListKit.w64w, Int.add_assoc, Int.reduceAdd, e1, e2, e3, e4, e5, ep, bne_self_eq_false, Bool.false_eq_true, ↓reduceIte]
    rw [ListKit.shift p _ (markKeeperL (v + 5) q)]
    refine EvKit.ev_to (ih (p ++ [_]) (v + 5) (p.length + 1) (by simp) (by omega) (by omega) (by simp only [List.length_append, List.length_cons, List.length_nil]; omega)) ?_
    simp only [List.length_cons]
    omega
theorem laws_heldKeeperS.ev (l : List S28) (v : Int) (h0 : 0 ≤ v) (h1 : v + 5 * (l.length : Int) ≤ 4611686018427387904) : Ev (fun k => laws_heldKeeperS.f k (markKeeperL v l) v) (v + 5 * (l.length : Int)) := by
  unfold laws_heldKeeperS.f
  exact laws_heldKeeperS.ev_l l [] v 0 rfl h0 h1 (by simp; omega)

theorem rd_T31_at2 (p : List S31) (x : S31) (q : List S31) : rd_T31 (p ++ x :: q) (p.length : Int) = x := by simp [rd_T31]
theorem laws_heldKeeperHostS.ev_l : ∀ (q p : List S31) (v : Int) (i : Nat), i = p.length → 0 ≤ v → v + 6 * (q.length : Int) + 5 * (savedSz q : Int) ≤ 4611686018427387904 → p.length + q.length ≤ 4611686018427387904 →
    Ev (fun k => laws_heldKeeperHostS.l0 k (p ++ markHostL v q) v (i : Int)) (v + 6 * (q.length : Int) + 5 * (savedSz q : Int)) := by
  intro q
  induction q with
  | nil =>
    intro p v i hi h0 h1 h2
    subst hi
    refine Ev.step (fun k => by rw [laws_heldKeeperHostS.l0]) ?_
    exact EvKit.itf (by simp [markHostL]) (EvKit.ret (by simp [savedSz]))
  | cons x q ih =>
    intro p v i hi h0 h1 h2
    subst hi
    simp only [List.length_cons, savedSz] at h1 h2
    have e1 : Aside0 (wrap64 (v + 1) = v + 1) := ⟨EvKit.w64 (by omega) (by omega)⟩
    have e2 : Aside0 (wrap64 (v + 2) = v + 2) := ⟨EvKit.w64 (by omega) (by omega)⟩
    have e3 : Aside0 (wrap64 (v + 3) = v + 3) := ⟨EvKit.w64 (by omega) (by omega)⟩
    have e4 : Aside0 (wrap64 (v + 4) = v + 4) := ⟨EvKit.w64 (by omega) (by omega)⟩
    have e5 : Aside0 (wrap64 (v + 5) = v + 5) := ⟨EvKit.w64 (by omega) (by omega)⟩
    have e6 : Aside0 (wrap64 (v + 5 + 5 * (x.f1.length : Int) + 1) = v + 6 + 5 * (x.f1.length : Int)) := ⟨by rw [EvKit.w64 (by omega) (by omega)]; omega⟩
    have ep : Aside0 (wrap64 ((p.length : Int) + 1) = (p.length : Int) + 1) := ⟨EvKit.w64 (by omega) (by omega)⟩
    simp only [markHostL]
    refine Ev.step (fun k => by rw [laws_heldKeeperHostS.l0, rd_T31_at2]) ?_
    refine EvKit.itt (by simp only [List.length_append, List.length_cons]; omega) (EvKit.itt (by omega) ?_)
    dsimp only
    have e12 : Aside0 (wrap64 (wrap64 (v + 1) + 1) = v + 2) := ⟨by rw [e1.out, show v + 1 + 1 = v + 2 by omega, e2.out]⟩
    have e13 : Aside0 (wrap64 (wrap64 (wrap64 (v + 1) + 1) + 1) = v + 3) := ⟨by rw [e12.out, show v + 2 + 1 = v + 3 by omega, e3.out]⟩
    have e14 : Aside0 (wrap64 (wrap64 (wrap64 (wrap64 (v + 1) + 1) + 1) + 1) = v + 4) := ⟨by rw [e13.out, show v + 3 + 1 = v + 4 by omega, e4.out]⟩
    have e15 : Aside0 (wrap64 (wrap64 (wrap64 (wrap64 (wrap64 (v + 1) + 1) + 1) + 1) + 1) = v + 5) := ⟨by rw [e14.out, show v + 4 + 1 = v + 5 by omega, e5.out]⟩
    refine EvKit.itt rfl (EvKit.itt e1.out.symm (EvKit.itt e12.out.symm (EvKit.itt e13.out.symm (EvKit.itt e14.out.symm ?_))))
    rw [e15.out]
    refine Ev.bind (laws_heldKeeperS.ev x.f1 (v + 5) (by omega) (by omega)) (EvKit.itf (by omega) (EvKit.itt rfl ?_))
    rw [e6.out, ep.out, ListKit.shift p _ (markHostL (v + 6 + 5 * (x.f1.length : Int)) q)]
    refine EvKit.ev_to (ih (p ++ [_]) (v + 6 + 5 * (x.f1.length : Int)) (p.length + 1) (by simp) (by omega) (by omega) (by simp only [List.length_append, List.length_cons, List.length_nil]; omega)) ?_
    simp only [List.length_cons, savedSz]
    omega
theorem laws_heldKeeperHostS.ev (l : List S31) (v : Int) (h0 : 0 ≤ v) (h1 : v + 6 * (l.length : Int) + 5 * (savedSz l : Int) ≤ 4611686018427387904) : Ev (fun k => laws_heldKeeperHostS.f k (markHostL v l) v) (v + 6 * (l.length : Int) + 5 * (savedSz l : Int)) := by
  unfold laws_heldKeeperHostS.f
  exact laws_heldKeeperHostS.ev_l l [] v 0 rfl h0 h1 (by simp; omega)

end Go.Proofs.Ytjngmadmdkkcmaa.QFnExactReplaceHost
