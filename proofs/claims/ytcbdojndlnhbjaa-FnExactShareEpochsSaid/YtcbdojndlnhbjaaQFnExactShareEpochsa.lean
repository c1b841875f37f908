/- What the printed functions of FnExactShareEpochs come to, in plain terms; no condition beyond those in each theorem. -/
import Derived.Test.YtcbdojndlnhbjaaRFnExactShareEpochs
set_option linter.unusedVariables false
set_option linter.unusedSimpArgs false
namespace Go.Proofs.Ytcbdojndlnhbjaa.QFnExactShareEpochs
open Go.RowKit Go.Proofs.Ytcbdojndlnhbjaa.PFnExactShareEpochs Go.Proofs.YtcbdojndlnhbjaaW.PrintWords Go.Proofs.YtcbdojndlnhbjaaW.PrintLast Go.Proofs.Ytcbdojndlnhbjaa.RFnExactShareEpochs
/-! ### evkit: steps for printed functions -/
namespace EvKit
theorem w64 {n : Int} (h0 : -9223372036854775808 ≤ n) (h1 : n ≤ 9223372036854775807) : wrap64 n = n := by unfold wrap64; omega
section
variable {α β : Type}
theorem ret {x r : α} (h : x = r) : Ev (fun _ => some x) r := ⟨0, fun _ _ => by rw [h]⟩
theorem eqv {x : Option α} {r : α} (h : x = some r) : Ev (fun _ => x) r := ⟨0, fun _ _ => h⟩
theorem itt {c : Prop} [Decidable c] {a b : Nat → Option α} {r : α} (hc : c) (h : Ev a r) : Ev (fun k => if c then a k else b k) r := Ev.congr (fun _ => if_pos hc) h
theorem itf {c : Prop} [Decidable c] {a b : Nat → Option α} {r : α} (hc : ¬ c) (h : Ev b r) : Ev (fun k => if c then a k else b k) r := Ev.congr (fun _ => if_neg hc) h
theorem ite {c : Prop} [Decidable c] {a b : Nat → Option α} {r : α} (h : c → Ev a r) (h' : ¬ c → Ev b r) : Ev (fun k => if c then a k else b k) r := by
  by_cases hc : c
  · exact itt hc (h hc)
  · exact itf hc (h' hc)
theorem now {x : α} {f : Nat → α → Option β} {r : β} (h : Ev (fun n => f n x) r) : Ev (fun n => (some x).bind (f n)) r := h
theorem bnd {x : Option α} {a : α} {f : Nat → α → Option β} {r : β} (hx : x = some a) (h : Ev (fun n => f n a) r) : Ev (fun n => x.bind (f n)) r := Ev.bind (eqv hx) h
theorem ev_to {g : Nat → Option α} {r q : α} (h : Ev g r) (e : r = q) : Ev g q := e ▸ h
end
end EvKit

namespace ListKit
theorem set_at {α : Type} (p : List α) (x y : α) (q : List α) : (p ++ x :: q).set (p.length : Int).toNat y = p ++ y :: q := by
  rw [Int.toNat_natCast, List.set_append_right _ _ (Nat.le_refl _), Nat.sub_self, List.set_cons_zero]
theorem shift {α : Type} (p : List α) (y : α) (q : List α) : p ++ y :: q = (p ++ [y]) ++ q := by simp
theorem w64w (a b : Int) : wrap64 (wrap64 a + b) = wrap64 (a + b) := by unfold wrap64; omega
end ListKit

theorem laws_szKeeperS.eq (l : List S37) (v : Int) (h0 : 0 ≤ v) (h1 : v ≤ 1048576) (hl : l.length ≤ 9223372036854775807) : laws_szKeeperS.f l v = some (if v < (l.length : Int) then -1 else v - (l.length : Int)) := by
  unfold laws_szKeeperS.f
  rw [EvKit.w64 (by omega) (by omega)]
  by_cases h : v < (l.length : Int)
  · rw [if_pos (by omega), if_pos h]
  · rw [if_neg (by omega), if_neg h]

/-! ### toKeeperS: the same list -/
def toKeeperC (x : S37) : S43 := (⟨(⟨x.f0.f0, x.f0.f1⟩ : S41), x.f1, x.f2, x.f3⟩ : S43)
theorem rd_T37_at (p : List S37) (x : S37) (q : List S37) (i : Nat) (hi : i = p.length) : rd_T37 (p ++ x :: q) (i : Int) = x := by subst hi; simp [rd_T37]
theorem laws_toKeeperS.ev_l : ∀ (q p : List S37) (i : Nat), i = p.length → p.length + q.length ≤ 4611686018427387904 →
    Ev (fun k => laws_toKeeperS.l0 k (p ++ q) (p.map toKeeperC ++ List.replicate q.length z43) (i : Int)) ((p ++ q).map toKeeperC) := by
  intro q
  induction q with
  | nil =>
    intro p i hi h
    refine Ev.step (fun k => by rw [laws_toKeeperS.l0]) ?_
    exact EvKit.itf (by simp; omega) (EvKit.ret (by simp))
  | cons x q ih =>
    intro p i hi h
    simp only [List.length_cons] at h
    refine Ev.step (fun k => by rw [laws_toKeeperS.l0]) ?_
    refine EvKit.itt (by simp only [List.length_append, List.length_cons]; omega) (EvKit.itt (by omega) ?_)
    rw [rd_T37_at p x q i hi]
    simp only [laws_toKeeper.f, laws_toShare.f, Option.bind_some]
    refine EvKit.itt (by simp only [List.length_append, List.length_map, List.length_replicate, List.length_cons]; omega) ?_
    rw [EvKit.w64 (n := (i : Int) + 1) (by omega) (by omega)]
    have e : (p.map toKeeperC ++ List.replicate (x :: q).length z43).set (i : Int).toNat (toKeeperC x) = (p ++ [x]).map toKeeperC ++ List.replicate q.length z43 := by
      rw [List.length_cons, List.replicate_succ]
      have h2 := ListKit.set_at (p.map toKeeperC) z43 (toKeeperC x) (List.replicate q.length z43)
      rw [List.length_map, ← hi] at h2
      rw [h2]
      simp
    have e2 : p ++ x :: q = (p ++ [x]) ++ q := by simp
    refine EvKit.ev_to (Ev.congr (fun k => ?_) (ih (p ++ [x]) (i + 1) (by simp; omega) (by simp only [List.length_append, List.length_cons, List.length_nil]; omega))) (by rw [e2])
    rw [← e, ← e2]
    rfl
theorem laws_toKeeperS.ev (l : List S37) (hl : l.length ≤ 1048576) : Ev (fun k => laws_toKeeperS.f k l) (l.map toKeeperC) := by
  unfold laws_toKeeperS.f
  exact EvKit.itt (by omega) (EvKit.itt (by omega) (laws_toKeeperS.ev_l l [] 0 rfl (by simp; omega)))

theorem laws_szKeeperHost.eq (a b c d e : Int) (l : List S37) (m v : Int) (h0 : 0 ≤ v) (h1 : v ≤ 1048576) (hl : l.length ≤ 9223372036854775807) : laws_szKeeperHost.f a b c d e l m v = some (if v < (l.length : Int) then -1 else v - (l.length : Int)) := by
  unfold laws_szKeeperHost.f
  rw [laws_szKeeperS.eq l v h0 h1 hl]
  simp only [Option.bind_some]
  by_cases h : v < (l.length : Int)
  · rw [if_pos h]; rfl
  · rw [if_neg h, if_neg (by omega)]
theorem laws_toKeeperHost.ev (a b c d e : Int) (l : List S37) (m : Int) (hl : l.length ≤ 1048576) : Ev (fun k => laws_toKeeperHost.f k a b c d e l m) (a, b, c, d, e, l.map toKeeperC, m) := by
  unfold laws_toKeeperHost.f laws_toKeeper.f laws_toShare.f
  exact EvKit.now (EvKit.now (Ev.bind (laws_toKeeperS.ev l hl) (EvKit.ret rfl)))

theorem laws_eqKeeper.refl (a0 a1 a2 a3 a4 : Int) : laws_eqKeeper.f a0 a1 a2 a3 a4 a0 a1 a2 a3 a4 = some true := by simp [laws_eqKeeper.f, laws_eqShare.f]

/-! ### eqKeeperS: a list and itself -/
theorem laws_eqKeeperS.ev_l (l : List S43) (hl : l.length ≤ 9223372036854775806) : ∀ (d i : Nat), l.length - i = d → i ≤ l.length → Ev (fun k => laws_eqKeeperS.l0 k l l (i : Int)) true := by
  intro d
  induction d with
  | zero =>
    intro i hd hi
    refine Ev.step (fun k => by rw [laws_eqKeeperS.l0]) ?_
    exact EvKit.itf (by omega) (EvKit.ret rfl)
  | succ d ih =>
    intro i hd hi
    refine Ev.step (fun k => by rw [laws_eqKeeperS.l0]) ?_
    refine EvKit.itt (by omega) (EvKit.itt (by omega) (EvKit.itt (by omega) (EvKit.bnd (laws_eqKeeper.refl ..) (EvKit.itt rfl ?_))))
    rw [EvKit.w64 (n := (i : Int) + 1) (by omega) (by omega)]
    exact ih (i + 1) (by omega) (by omega)
theorem laws_eqKeeperS.ev (l : List S43) (hl : l.length ≤ 9223372036854775806) : Ev (fun k => laws_eqKeeperS.f k l l) true := by
  unfold laws_eqKeeperS.f
  exact EvKit.itt rfl (laws_eqKeeperS.ev_l l hl _ 0 rfl (by omega))

theorem laws_eqKeeperHost.ev (a b c d e : Int) (l : List S43) (m : Int) (hl : l.length ≤ 9223372036854775806) : Ev (fun k => laws_eqKeeperHost.f k a b c d e l m a b c d e l m) true := by
  unfold laws_eqKeeperHost.f
  exact EvKit.bnd (laws_eqKeeper.refl ..) (EvKit.itt rfl (Ev.bind (laws_eqKeeperS.ev l hl) (EvKit.itt rfl (EvKit.itt rfl (EvKit.ret rfl)))))

/-! ### lists of hosts -/
def toKeeperHostC (x : S40) : S46 := ⟨toKeeperC x.f0, x.f1.map toKeeperC, x.f2⟩
def szHosts : List S40 → Nat
  | [] => 0
  | x :: l => x.f1.length + szHosts l
theorem szHosts_mem {x : S40} : ∀ {l : List S40}, x ∈ l → x.f1.length ≤ szHosts l
  | y :: l, h => by
    rcases List.mem_cons.1 h with rfl | h
    · simp [szHosts]
    · have := szHosts_mem h
      simp only [szHosts]; omega
theorem rd_T40_drop (l : List S40) (i : Nat) (h : i < l.length) : l.drop i = rd_T40 l (i : Int) :: l.drop (i + 1) := by
  rw [List.drop_eq_getElem_cons h]
  simp [rd_T40, List.getD, List.getElem?_eq_getElem h]
theorem laws_szKeeperHostS.ev_l (l : List S40) (hl : l.length ≤ 9223372036854775806) (he : ∀ x ∈ l, x.f1.length ≤ 9223372036854775807) : ∀ (d i : Nat) (v : Int), l.length - i = d → i ≤ l.length → 0 ≤ v → v ≤ 1048576 →
    ∃ r, Ev (fun k => laws_szKeeperHostS.l0 k l v (i : Int)) r ∧ (0 ≤ r → r = v - (szHosts (l.drop i) : Int)) ∧ r ≤ 1048576 := by
  intro d
  induction d with
  | zero =>
    intro i v hd hi h0 h1
    refine ⟨v, ?_, fun _ => ?_, h1⟩
    · refine Ev.step (fun k => by rw [laws_szKeeperHostS.l0]) ?_
      exact EvKit.itf (by omega) (EvKit.ret rfl)
    · rw [List.drop_of_length_le (by omega)]; simp [szHosts]
  | succ d ih =>
    intro i v hd hi h0 h1
    have hr := rd_T40_drop l i (by omega)
    have hm : rd_T40 l (i : Int) ∈ l := List.drop_subset i l (by rw [hr]; exact List.mem_cons_self)
    have hb := he _ hm
    by_cases h : v < ((rd_T40 l (i : Int)).f1.length : Int)
    · refine ⟨-1, ?_, fun h => by omega, by omega⟩
      refine Ev.step (fun k => by rw [laws_szKeeperHostS.l0]) ?_
      refine EvKit.itt (by omega) (EvKit.itt (by omega) (EvKit.bnd (laws_szKeeperHost.eq _ _ _ _ _ _ _ _ h0 h1 hb) ?_))
      rw [if_pos h]
      exact EvKit.itt (by omega) (EvKit.ret rfl)
    · obtain ⟨r, h2, h3, h4⟩ := ih (i + 1) (v - ((rd_T40 l (i : Int)).f1.length : Int)) (by omega) (by omega) (by omega) (by omega)
      refine ⟨r, ?_, fun hr0 => ?_, h4⟩
      · refine Ev.step (fun k => by rw [laws_szKeeperHostS.l0]) ?_
        refine EvKit.itt (by omega) (EvKit.itt (by omega) (EvKit.bnd (laws_szKeeperHost.eq _ _ _ _ _ _ _ _ h0 h1 hb) ?_))
        rw [if_neg h]
        refine EvKit.itf (by omega) ?_
        rw [EvKit.w64 (n := (i : Int) + 1) (by omega) (by omega)]
        exact h2
      · rw [h3 hr0, hr]
        simp only [szHosts]
        omega
theorem laws_szKeeperHostS.ev (l : List S40) (v : Int) (hl : l.length ≤ 9223372036854775807) (he : ∀ x ∈ l, x.f1.length ≤ 9223372036854775807) (h0 : 0 ≤ v) (h1 : v ≤ 1048576) :
    ∃ r, Ev (fun k => laws_szKeeperHostS.f k l v) r ∧ (0 ≤ r → r = v - (l.length : Int) - (szHosts l : Int)) ∧ r ≤ 1048576 := by
  unfold laws_szKeeperHostS.f
  rw [EvKit.w64 (by omega) (by omega)]
  by_cases h : v - (l.length : Int) < 0
  · exact ⟨-1, EvKit.itt h (EvKit.ret rfl), fun h => by omega, by omega⟩
  · obtain ⟨r, h2, h3, h4⟩ := laws_szKeeperHostS.ev_l l (by omega) he _ 0 (v - (l.length : Int)) rfl (by omega) (by omega) (by omega)
    exact ⟨r, EvKit.itf h h2, fun h => by rw [h3 h]; simp, h4⟩
theorem rd_T40_at (p : List S40) (x : S40) (q : List S40) (i : Nat) (hi : i = p.length) : rd_T40 (p ++ x :: q) (i : Int) = x := by subst hi; simp [rd_T40]
theorem laws_toKeeperHostS.ev_l : ∀ (q p : List S40) (i : Nat), i = p.length → p.length + q.length ≤ 4611686018427387904 → (∀ x ∈ q, x.f1.length ≤ 1048576) →
    Ev (fun k => laws_toKeeperHostS.l0 k (p ++ q) (p.map toKeeperHostC ++ List.replicate q.length z46) (i : Int)) ((p ++ q).map toKeeperHostC) := by
  intro q
  induction q with
  | nil =>
    intro p i hi h he
    refine Ev.step (fun k => by rw [laws_toKeeperHostS.l0]) ?_
    exact EvKit.itf (by simp; omega) (EvKit.ret (by simp))
  | cons x q ih =>
    intro p i hi h he
    simp only [List.length_cons] at h
    refine Ev.step (fun k => by rw [laws_toKeeperHostS.l0]) ?_
    refine EvKit.itt (by simp only [List.length_append, List.length_cons]; omega) (EvKit.itt (by omega) ?_)
    rw [rd_T40_at p x q i hi]
    refine Ev.bind (laws_toKeeperHost.ev _ _ _ _ _ _ _ (he x (by simp))) ?_
    refine EvKit.itt (by simp only [List.length_append, List.length_map, List.length_replicate, List.length_cons]; omega) ?_
    rw [EvKit.w64 (n := (i : Int) + 1) (by omega) (by omega)]
    have e : (p.map toKeeperHostC ++ List.replicate (x :: q).length z46).set (i : Int).toNat (toKeeperHostC x) = (p ++ [x]).map toKeeperHostC ++ List.replicate q.length z46 := by
      rw [List.length_cons, List.replicate_succ]
      have h2 := ListKit.set_at (p.map toKeeperHostC) z46 (toKeeperHostC x) (List.replicate q.length z46)
      rw [List.length_map, ← hi] at h2
      rw [h2]
      simp
    have e2 : p ++ x :: q = (p ++ [x]) ++ q := by simp
    refine EvKit.ev_to (Ev.congr (fun k => ?_) (ih (p ++ [x]) (i + 1) (by simp; omega) (by simp only [List.length_append, List.length_cons, List.length_nil]; omega) (fun y hy => he y (by simp [hy])))) (by rw [e2])
    rw [← e, ← e2]
    rfl
theorem laws_toKeeperHostS.ev (l : List S40) (hl : l.length ≤ 1048576) (he : ∀ x ∈ l, x.f1.length ≤ 1048576) : Ev (fun k => laws_toKeeperHostS.f k l) (l.map toKeeperHostC) := by
  unfold laws_toKeeperHostS.f
  exact EvKit.itt (by omega) (EvKit.itt (by omega) (laws_toKeeperHostS.ev_l l [] 0 rfl (by simp; omega) he))
theorem rd_T46_drop (l : List S46) (i : Nat) (h : i < l.length) : l.drop i = rd_T46 l (i : Int) :: l.drop (i + 1) := by
  rw [List.drop_eq_getElem_cons h]
  simp [rd_T46, List.getD, List.getElem?_eq_getElem h]
theorem rd_T46_mem (l : List S46) (i : Nat) (h : i < l.length) : rd_T46 l (i : Int) ∈ l :=
  List.drop_subset i l (by rw [rd_T46_drop l i h]; exact List.mem_cons_self)
theorem laws_eqKeeperHostS.ev_l (l : List S46) (hl : l.length ≤ 9223372036854775806) (he : ∀ x ∈ l, x.f1.length ≤ 9223372036854775806) : ∀ (d i : Nat), l.length - i = d → i ≤ l.length → Ev (fun k => laws_eqKeeperHostS.l0 k l l (i : Int)) true := by
  intro d
  induction d with
  | zero =>
    intro i hd hi
    refine Ev.step (fun k => by rw [laws_eqKeeperHostS.l0]) ?_
    exact EvKit.itf (by omega) (EvKit.ret rfl)
  | succ d ih =>
    intro i hd hi
    refine Ev.step (fun k => by rw [laws_eqKeeperHostS.l0]) ?_
    refine EvKit.itt (by omega) (EvKit.itt (by omega) (EvKit.itt (by omega) (Ev.bind (laws_eqKeeperHost.ev _ _ _ _ _ _ _ (he _ (rd_T46_mem l i (by omega)))) (EvKit.itt rfl ?_))))
    rw [EvKit.w64 (n := (i : Int) + 1) (by omega) (by omega)]
    exact ih (i + 1) (by omega) (by omega)
theorem laws_eqKeeperHostS.ev (l : List S46) (hl : l.length ≤ 9223372036854775806) (he : ∀ x ∈ l, x.f1.length ≤ 9223372036854775806) : Ev (fun k => laws_eqKeeperHostS.f k l l) true := by
  unfold laws_eqKeeperHostS.f
  exact EvKit.itt rfl (laws_eqKeeperHostS.ev_l l hl he _ 0 rfl (by omega))

/-! ### ShareEpochs -/
theorem spec_ShareEpochs.ev_l (l : List S46) (hl : l.length ≤ 1048576) : ∀ (n i : Nat) (p : List Int), l.length - i = n → i ≤ l.length → p.length = i → Ev (fun k => spec_ShareEpochs.l0 k l p (i : Int)) (p ++ (l.drop i).map (fun x => x.f0.f1)) := by
  intro n
  induction n with
  | zero =>
    intro i p hd hi hp
    refine Ev.step (fun k => by rw [spec_ShareEpochs.l0]) ?_
    rw [List.drop_of_length_le (by omega)]
    exact EvKit.itf (by omega) (EvKit.ret (by simp))
  | succ n ih =>
    intro i p hd hi hp
    refine Ev.step (fun k => by rw [spec_ShareEpochs.l0]) ?_
    rw [rd_T46_drop l i (by omega), EvKit.w64 (n := (i : Int) + 1) (by omega) (by omega)]
    refine EvKit.itt (by omega) (EvKit.itt (by omega) (EvKit.itt (by omega) (EvKit.ev_to (ih (i + 1) (p ++ [(rd_T46 l (i : Int)).f0.f1]) (by omega) (by omega) (by simp; omega)) ?_)))
    simp
theorem spec_ShareEpochs.ev (l : List S46) (hl : l.length ≤ 1048576) : Ev (fun k => spec_ShareEpochs.f k l) (l.map (fun x => x.f0.f1)) := by
  unfold spec_ShareEpochs.f
  exact EvKit.ev_to (spec_ShareEpochs.ev_l l hl _ 0 [] rfl (by omega) rfl) (by simp)
theorem impl_ShareEpochs.ev_l (l : List S46) (hl : l.length ≤ 1048576) : ∀ (n i : Nat) (p : List Int), l.length - i = n → i ≤ l.length → p.length = i → Ev (fun k => impl_ShareEpochs.l0 k p l (l.length : Int) (i : Int)) (p ++ (l.drop i).map (fun x => x.f0.f1)) := by
  intro n
  induction n with
  | zero =>
    intro i p hd hi hp
    refine Ev.step (fun k => by rw [impl_ShareEpochs.l0]) ?_
    rw [List.drop_of_length_le (by omega)]
    exact EvKit.itf (by omega) (EvKit.ret (by simp))
  | succ n ih =>
    intro i p hd hi hp
    refine Ev.step (fun k => by rw [impl_ShareEpochs.l0]) ?_
    rw [rd_T46_drop l i (by omega), EvKit.w64 (n := (i : Int) + 1) (by omega) (by omega)]
    refine EvKit.itt (by omega) (EvKit.itt (by omega) (EvKit.itt (by omega) (EvKit.itt (by omega) (EvKit.ev_to (ih (i + 1) (p ++ [(rd_T46 l (i : Int)).f0.f1]) (by omega) (by omega) (by simp; omega)) ?_))))
    simp
theorem impl_ShareEpochs.ev (l : List S46) (hl : l.length ≤ 1048576) : Ev (fun k => impl_ShareEpochs.f k l) (l.map (fun x => x.f0.f1)) := by
  unfold impl_ShareEpochs.f
  exact EvKit.ev_to (impl_ShareEpochs.ev_l l hl _ 0 [] rfl (by omega) rfl) (by simp)

theorem hosts_len {l : List S40} (h : szHosts l ≤ 1048576) : ∀ x ∈ l.map toKeeperHostC, x.f1.length ≤ 9223372036854775806 := by
  intro x hx
  obtain ⟨y, hy, rfl⟩ := List.mem_map.1 hx
  have := szHosts_mem hy
  simp only [toKeeperHostC, List.length_map]
  omega

/-! ### eqIntS -/
theorem laws_eqIntS.ev_l (l : List Int) (hl : l.length ≤ 9223372036854775806) : ∀ (d i : Nat), l.length - i = d → i ≤ l.length → Ev (fun k => laws_eqIntS.l0 k l l (i : Int)) true := by
  intro d
  induction d with
  | zero =>
    intro i hd hi
    refine Ev.step (fun k => by rw [laws_eqIntS.l0]) ?_
    exact EvKit.itf (by omega) (EvKit.ret rfl)
  | succ d ih =>
    intro i hd hi
    refine Ev.step (fun k => by rw [laws_eqIntS.l0]) ?_
    refine EvKit.itt (by omega) (EvKit.itt (by omega) (EvKit.itt (by omega) (EvKit.itt rfl ?_)))
    rw [EvKit.w64 (n := (i : Int) + 1) (by omega) (by omega)]
    exact ih (i + 1) (by omega) (by omega)
theorem laws_eqIntS.ev (l : List Int) (hl : l.length ≤ 9223372036854775806) : Ev (fun k => laws_eqIntS.f k l l) true := by
  unfold laws_eqIntS.f
  exact EvKit.itt rfl (laws_eqIntS.ev_l l hl _ 0 rfl (by omega))

theorem rd_at_ (p : List Int) (x : Int) (q : List Int) (i : Nat) (hi : i = p.length) : rd (p ++ x :: q) (i : Int) = x := by subst hi; simp [rd]

/-! ### markIntS -/
def markIntL : Int → List Int → List Int
  | _, [] => []
  | v, _ :: l => v :: markIntL (v + 1) l
theorem laws_markIntS.ev_l : ∀ (q p : List Int) (v : Int) (i : Nat), i = p.length → 0 ≤ v → v + (q.length : Int) ≤ 4611686018427387904 → p.length + q.length ≤ 4611686018427387904 →
    Ev (fun k => laws_markIntS.l0 k (p ++ q) v (i : Int)) (v + (q.length : Int), p ++ markIntL v q) := by
  intro q
  induction q with
  | nil =>
    intro p v i hi h0 h1 h2
    subst hi
    refine Ev.step (fun k => by rw [laws_markIntS.l0]) ?_
    exact EvKit.itf (by simp) (EvKit.ret (by simp [markIntL]))
  | cons x q ih =>
    intro p v i hi h0 h1 h2
    subst hi
    simp only [List.length_cons] at h1 h2
    have e1 : wrap64 (v + 1) = v + 1 := EvKit.w64 (by omega) (by omega)
    have ep : wrap64 ((p.length : Int) + 1) = (p.length : Int) + 1 := EvKit.w64 (by omega) (by omega)
    refine Ev.step (fun k => by rw [laws_markIntS.l0]) ?_
    refine EvKit.itt (by simp only [List.length_append, List.length_cons]; omega) (EvKit.itt (by omega) ?_)
    simp only [ListKit.set_at, e1, ep]
    rw [ListKit.shift p _ q]
    refine EvKit.ev_to (ih (p ++ [_]) (v + 1) (p.length + 1) (by simp) (by omega) (by omega) (by simp only [List.length_append, List.length_cons, List.length_nil]; omega)) ?_
    simp only [markIntL, List.append_assoc, List.cons_append, List.nil_append, List.length_cons]
    refine Prod.ext ?_ rfl
    show v + 1 + (q.length : Int) = v + ((q.length + 1 : Nat) : Int)
    omega
theorem laws_markIntS.ev (l : List Int) (v : Int) (h0 : 0 ≤ v) (h1 : v + (l.length : Int) ≤ 4611686018427387904) : Ev (fun k => laws_markIntS.f k l v) (v + (l.length : Int), markIntL v l) := by
  unfold laws_markIntS.f
  exact laws_markIntS.ev_l l [] v 0 rfl h0 h1 (by simp; omega)

theorem laws_heldIntS.ev_l : ∀ (q p : List Int) (v : Int) (i : Nat), i = p.length → 0 ≤ v → v + (q.length : Int) ≤ 4611686018427387904 → p.length + q.length ≤ 4611686018427387904 →
    Ev (fun k => laws_heldIntS.l0 k (p ++ markIntL v q) v (i : Int)) (v + (q.length : Int)) := by
  intro q
  induction q with
  | nil =>
    intro p v i hi h0 h1 h2
    subst hi
    refine Ev.step (fun k => by rw [laws_heldIntS.l0]) ?_
    exact EvKit.itf (by simp [markIntL]) (EvKit.ret (by simp))
  | cons x q ih =>
    intro p v i hi h0 h1 h2
    subst hi
    simp only [List.length_cons] at h1 h2
    have e1 : wrap64 (v + 1) = v + 1 := EvKit.w64 (by omega) (by omega)
    have ep : wrap64 ((p.length : Int) + 1) = (p.length : Int) + 1 := EvKit.w64 (by omega) (by omega)
    simp only [markIntL]
    refine Ev.step (fun k => by rw [laws_heldIntS.l0]) ?_
    refine EvKit.itt (by simp only [List.length_append, List.length_cons]; omega) (EvKit.itt (by omega) ?_)
    rw [rd_at_ p v _ p.length rfl]
    refine EvKit.itt rfl ?_
    simp only [e1, ep]
    rw [ListKit.shift p _ (markIntL (v + 1) q)]
    refine EvKit.ev_to (ih (p ++ [_]) (v + 1) (p.length + 1) (by simp) (by omega) (by omega) (by simp only [List.length_append, List.length_cons, List.length_nil]; omega)) ?_
    simp only [List.length_cons]
    omega
theorem laws_heldIntS.ev (l : List Int) (v : Int) (h0 : 0 ≤ v) (h1 : v + (l.length : Int) ≤ 4611686018427387904) : Ev (fun k => laws_heldIntS.f k (markIntL v l) v) (v + (l.length : Int)) := by
  unfold laws_heldIntS.f
  exact laws_heldIntS.ev_l l [] v 0 rfl h0 h1 (by simp; omega)

/-! ### markKeeperS and heldKeeperS -/
def markKeeperL : Int → List S43 → List S43
  | _, [] => []
  | v, _ :: l => (⟨(⟨v, v + 1⟩ : S41), v + 2, v + 3, v + 4⟩ : S43) :: markKeeperL (v + 5) l
theorem markKeeperL_len : ∀ (l : List S43) (v : Int), (markKeeperL v l).length = l.length
  | [], _ => rfl
  | _ :: l, v => by simp [markKeeperL, markKeeperL_len l]
theorem rd_T43_at (p : List S43) (x : S43) (q : List S43) : rd_T43 (p ++ x :: q) (p.length : Int) = x := by simp [rd_T43]
theorem laws_markKeeperS.ev_l : ∀ (q p : List S43) (v : Int) (i : Nat), i = p.length → 0 ≤ v → v + 5 * (q.length : Int) ≤ 4611686018427387904 → p.length + q.length ≤ 4611686018427387904 →
    Ev (fun k => laws_markKeeperS.l0 k (p ++ q) v (i : Int)) (v + 5 * (q.length : Int), p ++ markKeeperL v q) := by
  intro q
  induction q with
  | nil =>
    intro p v i hi h0 h1 h2
    subst hi
    refine Ev.step (fun k => by rw [laws_markKeeperS.l0]) ?_
    exact EvKit.itf (by simp) (EvKit.ret (by simp [markKeeperL]))
  | cons x q ih =>
    intro p v i hi h0 h1 h2
    subst hi
    simp only [List.length_cons] at h1 h2
    have e1 : wrap64 (v + 1) = v + 1 := EvKit.w64 (by omega) (by omega)
    have e2 : wrap64 (v + 2) = v + 2 := EvKit.w64 (by omega) (by omega)
    have e3 : wrap64 (v + 3) = v + 3 := EvKit.w64 (by omega) (by omega)
    have e4 : wrap64 (v + 4) = v + 4 := EvKit.w64 (by omega) (by omega)
    have e5 : wrap64 (v + 5) = v + 5 := EvKit.w64 (by omega) (by omega)
    have ep : wrap64 ((p.length : Int) + 1) = (p.length : Int) + 1 := EvKit.w64 (by omega) (by omega)
    refine Ev.step (fun k => by rw [laws_markKeeperS.l0]) ?_
    refine EvKit.itt (by simp only [List.length_append, List.length_cons]; omega) (EvKit.itt (by omega) ?_)
    simp only [Option.bind_some, ListKit.set_at, rd_T43_at, ListKit.w64w, Int.add_assoc, Int.reduceAdd, e1, e2, e3, e4, e5, ep]
    rw [ListKit.shift p _ q]
    refine EvKit.ev_to (ih (p ++ [_]) (v + 5) (p.length + 1) (by simp) (by omega) (by omega) (by simp only [List.length_append, List.length_cons, List.length_nil]; omega)) ?_
    simp only [markKeeperL, List.append_assoc, List.cons_append, List.nil_append, List.length_cons]
    refine Prod.ext ?_ rfl
    show v + 5 + 5 * (q.length : Int) = v + 5 * ((q.length + 1 : Nat) : Int)
    omega
theorem laws_markKeeperS.ev (l : List S43) (v : Int) (h0 : 0 ≤ v) (h1 : v + 5 * (l.length : Int) ≤ 4611686018427387904) : Ev (fun k => laws_markKeeperS.f k l v) (v + 5 * (l.length : Int), markKeeperL v l) := by
  unfold laws_markKeeperS.f
  exact laws_markKeeperS.ev_l l [] v 0 rfl h0 h1 (by simp; omega)

/-! ### marks of lists of hosts -/
def savedSz : List S46 → Nat
  | [] => 0
  | x :: l => x.f1.length + savedSz l
theorem savedSz_map : ∀ l : List S40, savedSz (l.map toKeeperHostC) = szHosts l
  | [] => rfl
  | x :: l => by simp only [List.map_cons, savedSz, szHosts, savedSz_map l, toKeeperHostC, List.length_map]
def markHostL : Int → List S46 → List S46
  | _, [] => []
  | v, x :: l => (⟨(⟨(⟨v, v + 1⟩ : S41), v + 2, v + 3, v + 4⟩ : S43), markKeeperL (v + 5) x.f1, v + 5 + 5 * (x.f1.length : Int)⟩ : S46) :: markHostL (v + 6 + 5 * (x.f1.length : Int)) l
theorem laws_markKeeperHostS.ev_g : ∀ (l : List S46) (v : Int), 0 ≤ v → v + 6 * (l.length : Int) + 5 * (savedSz l : Int) ≤ 4611686018427387904 → Ev (fun k => laws_markKeeperHostS.go k l v) (v + 6 * (l.length : Int) + 5 * (savedSz l : Int), markHostL v l)
  | [], v, _, _ => EvKit.ret (by simp [savedSz, markHostL])
  | x :: l, v, h0, h1 => by
    simp only [List.length_cons, savedSz] at h1
    have e1 : wrap64 (v + 1) = v + 1 := EvKit.w64 (by omega) (by omega)
    have e2 : wrap64 (v + 2) = v + 2 := EvKit.w64 (by omega) (by omega)
    have e3 : wrap64 (v + 3) = v + 3 := EvKit.w64 (by omega) (by omega)
    have e4 : wrap64 (v + 4) = v + 4 := EvKit.w64 (by omega) (by omega)
    have e5 : wrap64 (v + 5) = v + 5 := EvKit.w64 (by omega) (by omega)
    have e6 : wrap64 (v + 5 + 5 * (x.f1.length : Int) + 1) = v + 6 + 5 * (x.f1.length : Int) := by rw [EvKit.w64 (by omega) (by omega)]; omega
    simp only [laws_markKeeperHostS.go, ListKit.w64w, Int.add_assoc, Int.reduceAdd, e1, e2, e3, e4, e5]
    refine Ev.bind (laws_markKeeperS.ev x.f1 (v + 5) (by omega) (by omega)) ?_
    simp only [Int.add_assoc] at e6 ⊢
    rw [e6]
    refine Ev.bind (laws_markKeeperHostS.ev_g l (v + (6 + 5 * (x.f1.length : Int))) (by omega) (by omega)) (EvKit.ret ?_)
    simp only [markHostL, savedSz, List.length_cons, Int.add_assoc]
    refine Prod.ext ?_ rfl
    dsimp only
    omega
theorem laws_markKeeperHostS.ev (l : List S46) (v : Int) (h0 : 0 ≤ v) (h1 : v + 6 * (l.length : Int) + 5 * (savedSz l : Int) ≤ 4611686018427387904) : Ev (fun k => laws_markKeeperHostS.f k l v) (v + 6 * (l.length : Int) + 5 * (savedSz l : Int), markHostL v l) := by
  unfold laws_markKeeperHostS.f
  exact EvKit.itt (by omega) (laws_markKeeperHostS.ev_g l v h0 h1)

end Go.Proofs.Ytcbdojndlnhbjaa.QFnExactShareEpochs
