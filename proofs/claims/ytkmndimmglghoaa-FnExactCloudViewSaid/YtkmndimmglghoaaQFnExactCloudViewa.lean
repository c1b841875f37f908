/- What the printed functions of FnExactCloudView come to, in plain terms; no condition beyond those in each theorem. -/
import Derived.Test.YtkmndimmglghoaaRFnExactCloudView
set_option linter.unusedVariables false
set_option linter.unusedSimpArgs false
namespace Go.Proofs.Ytkmndimmglghoaa.QFnExactCloudView
open Go.RowKit Go.Proofs.Ytkmndimmglghoaa.PFnExactCloudView Go.Proofs.YtkmndimmglghoaaW.PrintWords Go.Proofs.YtkmndimmglghoaaW.PrintLast Go.Proofs.Ytkmndimmglghoaa.RFnExactCloudView
/-! ### evkit: steps for printed functions -/
namespace EvKit
theorem w64 {n : Int} (h0 : -9223372036854775808 ≤ n) (h1 : n ≤ 9223372036854775807) : wrap64 n = n := by unfold wrap64; omega
section
variable {α β : Type}
theorem ret {x r : α} (h : x = r) : Ev (fun _ => some x) r := ⟨0, fun _ _ => by rw [h]⟩
theorem eqv {x : Option α} {r : α} (h : x = some r) : Ev (fun _ => x) r := ⟨0, fun _ _ => h⟩
theorem itt {c : Prop} [Decidable c] {a b : Nat → Option α} {r : α} (hc : c) (h : Ev a r) : Ev (fun k => if c then a k else b k) r := Ev.congr (fun _ => if_pos hc) h
theorem itf {c : Prop} [Decidable c] {a b : Nat → Option α} {r : α} (hc : ¬ c) (h : Ev b r) : Ev (fun k => if c then a k else b k) r := Ev.congr (fun _ => if_neg hc) h
theorem ite {c : Prop} [Decidable c] {a b : Nat → Option α} {r : α} (h : c → Ev a r) (h' : ¬ c → Ev b r) : Ev (fun k => if c then a k else b k) r := by
  by_cases hc : c
  · exact itt hc (h hc)
  · exact itf hc (h' hc)
theorem now {x : α} {f : Nat → α → Option β} {r : β} (h : Ev (fun n => f n x) r) : Ev (fun n => (some x).bind (f n)) r := h
theorem bnd {x : Option α} {a : α} {f : Nat → α → Option β} {r : β} (hx : x = some a) (h : Ev (fun n => f n a) r) : Ev (fun n => x.bind (f n)) r := Ev.bind (eqv hx) h
theorem ev_to {g : Nat → Option α} {r q : α} (h : Ev g r) (e : r = q) : Ev g q := e ▸ h
end
end EvKit

namespace ListKit
theorem set_at {α : Type} (p : List α) (x y : α) (q : List α) : (p ++ x :: q).set (p.length : Int).toNat y = p ++ y :: q := by
  rw [Int.toNat_natCast, List.set_append_right _ _ (Nat.le_refl _), Nat.sub_self, List.set_cons_zero]
theorem shift {α : Type} (p : List α) (y : α) (q : List α) : p ++ y :: q = (p ++ [y]) ++ q := by simp
theorem w64w (a b : Int) : wrap64 (wrap64 a + b) = wrap64 (a + b) := by unfold wrap64; omega
end ListKit

/-! ### markLogEntryS and heldLogEntryS -/
def markLogEntryL : Int → List S114 → List S114
  | _, [] => []
  | v, _ :: l => (⟨v, v + 1, v + 2, v + 3, v + 4, v + 5⟩ : S114) :: markLogEntryL (v + 6) l
theorem markLogEntryL_len : ∀ (l : List S114) (v : Int), (markLogEntryL v l).length = l.length
  | [], _ => rfl
  | _ :: l, v => by simp [markLogEntryL, markLogEntryL_len l]
theorem rd_T114_at (p : List S114) (x : S114) (q : List S114) : rd_T114 (p ++ x :: q) (p.length : Int) = x := by simp [rd_T114]
theorem laws_markLogEntryS.ev_l : ∀ (q p : List S114) (v : Int) (i : Nat), i = p.length → 0 ≤ v → v + 6 * (q.length : Int) ≤ 4611686018427387904 → p.length + q.length ≤ 4611686018427387904 →
    Ev (fun k => laws_markLogEntryS.l0 k (p ++ q) v (i : Int)) (v + 6 * (q.length : Int), p ++ markLogEntryL v q) := by
  intro q
  induction q with
  | nil =>
    intro p v i hi h0 h1 h2
    subst hi
    refine Ev.step (fun k => by rw [laws_markLogEntryS.l0]) ?_
    exact EvKit.itf (by simp) (EvKit.ret (by simp [markLogEntryL]))
  | cons x q ih =>
    intro p v i hi h0 h1 h2
    subst hi
    simp only [List.length_cons] at h1 h2
    have e1 : wrap64 (v + 1) = v + 1 := EvKit.w64 (by omega) (by omega)
    have e2 : wrap64 (v + 2) = v + 2 := EvKit.w64 (by omega) (by omega)
    have e3 : wrap64 (v + 3) = v + 3 := EvKit.w64 (by omega) (by omega)
    have e4 : wrap64 (v + 4) = v + 4 := EvKit.w64 (by omega) (by omega)
    have e5 : wrap64 (v + 5) = v + 5 := EvKit.w64 (by omega) (by omega)
    have e6 : wrap64 (v + 6) = v + 6 := EvKit.w64 (by omega) (by omega)
    have ep : wrap64 ((p.length : Int) + 1) = (p.length : Int) + 1 := EvKit.w64 (by omega) (by omega)
    refine Ev.step (fun k => by rw [laws_markLogEntryS.l0]) ?_
    refine EvKit.itt (by simp only [List.length_append, List.length_cons]; omega) (EvKit.itt (by omega) ?_)
    simp only [Option.bind_some, ListKit.set_at, rd_T114_at, ListKit.w64w, Int.add_assoc, Int.reduceAdd, e1, e2, e3, e4, e5, e6, ep]
    rw [ListKit.shift p _ q]
    refine EvKit.ev_to (ih (p ++ [_]) (v + 6) (p.length + 1) (by simp) (by omega) (by omega) (by simp only [List.length_append, List.length_cons, List.length_nil]; omega)) ?_
    simp only [markLogEntryL, List.append_assoc, List.cons_append, List.nil_append, List.length_cons]
    refine Prod.ext ?_ rfl
    show v + 6 + 6 * (q.length : Int) = v + 6 * ((q.length + 1 : Nat) : Int)
    omega
theorem laws_markLogEntryS.ev (l : List S114) (v : Int) (h0 : 0 ≤ v) (h1 : v + 6 * (l.length : Int) ≤ 4611686018427387904) : Ev (fun k => laws_markLogEntryS.f k l v) (v + 6 * (l.length : Int), markLogEntryL v l) := by
  unfold laws_markLogEntryS.f
  exact laws_markLogEntryS.ev_l l [] v 0 rfl h0 h1 (by simp; omega)

theorem rd_at_ (p : List Int) (x : Int) (q : List Int) (i : Nat) (hi : i = p.length) : rd (p ++ x :: q) (i : Int) = x := by subst hi; simp [rd]

/-! ### markByteS -/
def markByteL : Int → List Int → List Int
  | _, [] => []
  | v, _ :: l => (v % 256) :: markByteL (v + 1) l
theorem laws_markByteS.ev_l : ∀ (q p : List Int) (v : Int) (i : Nat), i = p.length → 0 ≤ v → v + (q.length : Int) ≤ 4611686018427387904 → p.length + q.length ≤ 4611686018427387904 →
    Ev (fun k => laws_markByteS.l0 k (p ++ q) v (i : Int)) (v + (q.length : Int), p ++ markByteL v q) := by
  intro q
  induction q with
  | nil =>
    intro p v i hi h0 h1 h2
    subst hi
    refine Ev.step (fun k => by rw [laws_markByteS.l0]) ?_
    exact EvKit.itf (by simp) (EvKit.ret (by simp [markByteL]))
  | cons x q ih =>
    intro p v i hi h0 h1 h2
    subst hi
    simp only [List.length_cons] at h1 h2
    have e1 : wrap64 (v + 1) = v + 1 := EvKit.w64 (by omega) (by omega)
    have ep : wrap64 ((p.length : Int) + 1) = (p.length : Int) + 1 := EvKit.w64 (by omega) (by omega)
    refine Ev.step (fun k => by rw [laws_markByteS.l0]) ?_
    refine EvKit.itt (by simp only [List.length_append, List.length_cons]; omega) (EvKit.itt (by omega) ?_)
    simp only [ListKit.set_at, e1, ep]
    rw [ListKit.shift p _ q]
    refine EvKit.ev_to (ih (p ++ [_]) (v + 1) (p.length + 1) (by simp) (by omega) (by omega) (by simp only [List.length_append, List.length_cons, List.length_nil]; omega)) ?_
    simp only [markByteL, List.append_assoc, List.cons_append, List.nil_append, List.length_cons]
    refine Prod.ext ?_ rfl
    show v + 1 + (q.length : Int) = v + ((q.length + 1 : Nat) : Int)
    omega
theorem laws_markByteS.ev (l : List Int) (v : Int) (h0 : 0 ≤ v) (h1 : v + (l.length : Int) ≤ 4611686018427387904) : Ev (fun k => laws_markByteS.f k l v) (v + (l.length : Int), markByteL v l) := by
  unfold laws_markByteS.f
  exact laws_markByteS.ev_l l [] v 0 rfl h0 h1 (by simp; omega)

/-! ### lists of bytes: toByteS, eqByteS -/
theorem laws_toByteS.ev_l : ∀ (q p : List Int) (i : Nat), i = p.length → p.length + q.length ≤ 4611686018427387904 →
    Ev (fun k => laws_toByteS.l0 k (p ++ q) (p ++ List.replicate q.length 0) (i : Int)) (p ++ q) := by
  intro q
  induction q with
  | nil =>
    intro p i hi h
    refine Ev.step (fun k => by rw [laws_toByteS.l0]) ?_
    exact EvKit.itf (by simp; omega) (EvKit.ret (by simp))
  | cons x q ih =>
    intro p i hi h
    simp only [List.length_cons] at h
    refine Ev.step (fun k => by rw [laws_toByteS.l0]) ?_
    refine EvKit.itt (by simp only [List.length_append, List.length_cons]; omega) (EvKit.itt (by omega) ?_)
    rw [rd_at_ p x q i hi]
    refine EvKit.itt (by simp only [List.length_append, List.length_replicate, List.length_cons]; omega) ?_
    rw [EvKit.w64 (n := (i : Int) + 1) (by omega) (by omega)]
    have e : (p ++ List.replicate (x :: q).length 0).set (i : Int).toNat x = (p ++ [x]) ++ List.replicate q.length 0 := by
      rw [List.length_cons, List.replicate_succ]
      have h2 := ListKit.set_at p 0 x (List.replicate q.length 0)
      rw [← hi] at h2
      rw [h2]
      simp
    have e2 : p ++ x :: q = (p ++ [x]) ++ q := by simp
    refine EvKit.ev_to (Ev.congr (fun k => ?_) (ih (p ++ [x]) (i + 1) (by simp; omega) (by simp only [List.length_append, List.length_cons, List.length_nil]; omega))) (by rw [e2])
    rw [← e, ← e2]
    rfl
theorem laws_toByteS.ev (l : List Int) (hl : l.length ≤ 1048576) : Ev (fun k => laws_toByteS.f k l) l := by
  unfold laws_toByteS.f
  exact EvKit.itt (by omega) (EvKit.itt (by omega) (laws_toByteS.ev_l l [] 0 rfl (by simp; omega)))
theorem laws_eqByteS.ev_l (l : List Int) (hl : l.length ≤ 9223372036854775806) : ∀ (d i : Nat), l.length - i = d → i ≤ l.length → Ev (fun k => laws_eqByteS.l0 k l l (i : Int)) true := by
  intro d
  induction d with
  | zero =>
    intro i hd hi
    refine Ev.step (fun k => by rw [laws_eqByteS.l0]) ?_
    exact EvKit.itf (by omega) (EvKit.ret rfl)
  | succ d ih =>
    intro i hd hi
    refine Ev.step (fun k => by rw [laws_eqByteS.l0]) ?_
    refine EvKit.itt (by omega) (EvKit.itt (by omega) (EvKit.itt (by omega) (EvKit.itt rfl ?_)))
    rw [EvKit.w64 (n := (i : Int) + 1) (by omega) (by omega)]
    exact ih (i + 1) (by omega) (by omega)
theorem laws_eqByteS.ev (l : List Int) (hl : l.length ≤ 9223372036854775806) : Ev (fun k => laws_eqByteS.f k l l) true := by
  unfold laws_eqByteS.f
  exact EvKit.itt rfl (laws_eqByteS.ev_l l hl _ 0 rfl (by omega))
theorem laws_szByteS.eq (l : List Int) (v : Int) (h0 : 0 ≤ v) (h1 : v ≤ 1048576) (hl : l.length ≤ 9223372036854775807) : laws_szByteS.f l v = some (if v < (l.length : Int) then -1 else v - (l.length : Int)) := by
  unfold laws_szByteS.f
  rw [EvKit.w64 (by omega) (by omega)]
  by_cases h : v < (l.length : Int)
  · rw [if_pos (by omega), if_pos h]
  · rw [if_neg (by omega), if_neg h]

/-! ### lists of boxes -/
theorem laws_szBox.eq (a b : Int) (l : List Int) (c v : Int) (h0 : 0 ≤ v) (h1 : v ≤ 1048576) (hl : l.length ≤ 9223372036854775807) : laws_szBox.f a b l c v = some (if v < (l.length : Int) then -1 else v - (l.length : Int)) := by
  unfold laws_szBox.f
  rw [laws_szByteS.eq l v h0 h1 hl]
  simp only [Option.bind_some]
  by_cases h : v < (l.length : Int)
  · rw [if_pos h]; rfl
  · rw [if_neg h, if_neg (by omega)]
theorem laws_toBox.ev (a b : Int) (l : List Int) (c : Int) (hl : l.length ≤ 1048576) : Ev (fun k => laws_toBox.f k a b l c) (a, b, l, c) := by
  unfold laws_toBox.f
  exact Ev.bind (laws_toByteS.ev l hl) (EvKit.ret rfl)
theorem laws_eqBox.ev (a b : Int) (l : List Int) (c : Int) (hl : l.length ≤ 9223372036854775806) : Ev (fun k => laws_eqBox.f k a b l c a b l c) true := by
  unfold laws_eqBox.f
  exact EvKit.itt rfl (EvKit.itt rfl (Ev.bind (laws_eqByteS.ev l hl) (EvKit.itt rfl (EvKit.itt rfl (EvKit.ret rfl)))))
def toBoxC (x : S159) : S161 := ⟨x.f0, x.f1, x.f2, x.f3⟩
def szBoxes : List S159 → Nat
  | [] => 0
  | x :: l => x.f2.length + szBoxes l
theorem szBoxes_mem {x : S159} : ∀ {l : List S159}, x ∈ l → x.f2.length ≤ szBoxes l
  | y :: l, h => by
    rcases List.mem_cons.1 h with rfl | h
    · simp [szBoxes]
    · have := szBoxes_mem h
      simp only [szBoxes]; omega
theorem rd_T159_drop (l : List S159) (i : Nat) (h : i < l.length) : l.drop i = rd_T159 l (i : Int) :: l.drop (i + 1) := by
  rw [List.drop_eq_getElem_cons h]
  simp [rd_T159, List.getD, List.getElem?_eq_getElem h]
theorem laws_szBoxS.ev_l (l : List S159) (hl : l.length ≤ 9223372036854775806) (he : ∀ x ∈ l, x.f2.length ≤ 9223372036854775807) : ∀ (d i : Nat) (v : Int), l.length - i = d → i ≤ l.length → 0 ≤ v → v ≤ 1048576 →
    ∃ r, Ev (fun k => laws_szBoxS.l0 k l v (i : Int)) r ∧ (0 ≤ r → r = v - (szBoxes (l.drop i) : Int)) ∧ r ≤ 1048576 := by
  intro d
  induction d with
  | zero =>
    intro i v hd hi h0 h1
    refine ⟨v, ?_, fun _ => ?_, h1⟩
    · refine Ev.step (fun k => by rw [laws_szBoxS.l0]) ?_
      exact EvKit.itf (by omega) (EvKit.ret rfl)
    · rw [List.drop_of_length_le (by omega)]; simp [szBoxes]
  | succ d ih =>
    intro i v hd hi h0 h1
    have hr := rd_T159_drop l i (by omega)
    have hm : rd_T159 l (i : Int) ∈ l := List.drop_subset i l (by rw [hr]; exact List.mem_cons_self)
    have hb := he _ hm
    by_cases h : v < ((rd_T159 l (i : Int)).f2.length : Int)
    · refine ⟨-1, ?_, fun h => by omega, by omega⟩
      refine Ev.step (fun k => by rw [laws_szBoxS.l0]) ?_
      refine EvKit.itt (by omega) (EvKit.itt (by omega) (EvKit.bnd (laws_szBox.eq _ _ _ _ _ h0 h1 hb) ?_))
      rw [if_pos h]
      exact EvKit.itt (by omega) (EvKit.ret rfl)
    · obtain ⟨r, h2, h3, h4⟩ := ih (i + 1) (v - ((rd_T159 l (i : Int)).f2.length : Int)) (by omega) (by omega) (by omega) (by omega)
      refine ⟨r, ?_, fun hr0 => ?_, h4⟩
      · refine Ev.step (fun k => by rw [laws_szBoxS.l0]) ?_
        refine EvKit.itt (by omega) (EvKit.itt (by omega) (EvKit.bnd (laws_szBox.eq _ _ _ _ _ h0 h1 hb) ?_))
        rw [if_neg h]
        refine EvKit.itf (by omega) ?_
        rw [EvKit.w64 (n := (i : Int) + 1) (by omega) (by omega)]
        exact h2
      · rw [h3 hr0, hr]
        simp only [szBoxes]
        omega
theorem laws_szBoxS.ev (l : List S159) (v : Int) (hl : l.length ≤ 9223372036854775807) (he : ∀ x ∈ l, x.f2.length ≤ 9223372036854775807) (h0 : 0 ≤ v) (h1 : v ≤ 1048576) :
    ∃ r, Ev (fun k => laws_szBoxS.f k l v) r ∧ (0 ≤ r → r = v - (l.length : Int) - (szBoxes l : Int)) ∧ r ≤ 1048576 := by
  unfold laws_szBoxS.f
  rw [EvKit.w64 (by omega) (by omega)]
  by_cases h : v - (l.length : Int) < 0
  · exact ⟨-1, EvKit.itt h (EvKit.ret rfl), fun h => by omega, by omega⟩
  · obtain ⟨r, h2, h3, h4⟩ := laws_szBoxS.ev_l l (by omega) he _ 0 (v - (l.length : Int)) rfl (by omega) (by omega) (by omega)
    exact ⟨r, EvKit.itf h h2, fun h => by rw [h3 h]; simp, h4⟩
theorem rd_T159_at (p : List S159) (x : S159) (q : List S159) (i : Nat) (hi : i = p.length) : rd_T159 (p ++ x :: q) (i : Int) = x := by subst hi; simp [rd_T159]
theorem laws_toBoxS.ev_l : ∀ (q p : List S159) (i : Nat), i = p.length → p.length + q.length ≤ 4611686018427387904 → (∀ x ∈ q, x.f2.length ≤ 1048576) →
    Ev (fun k => laws_toBoxS.l0 k (p ++ q) (p.map toBoxC ++ List.replicate q.length z161) (i : Int)) ((p ++ q).map toBoxC) := by
  intro q
  induction q with
  | nil =>
    intro p i hi h he
    refine Ev.step (fun k => by rw [laws_toBoxS.l0]) ?_
    exact EvKit.itf (by simp; omega) (EvKit.ret (by simp))
  | cons x q ih =>
    intro p i hi h he
    simp only [List.length_cons] at h
    refine Ev.step (fun k => by rw [laws_toBoxS.l0]) ?_
    refine EvKit.itt (by simp only [List.length_append, List.length_cons]; omega) (EvKit.itt (by omega) ?_)
    rw [rd_T159_at p x q i hi]
    refine Ev.bind (laws_toBox.ev _ _ _ _ (he x (by simp))) ?_
    refine EvKit.itt (by simp only [List.length_append, List.length_map, List.length_replicate, List.length_cons]; omega) ?_
    rw [EvKit.w64 (n := (i : Int) + 1) (by omega) (by omega)]
    have e : (p.map toBoxC ++ List.replicate (x :: q).length z161).set (i : Int).toNat (toBoxC x) = (p ++ [x]).map toBoxC ++ List.replicate q.length z161 := by
      rw [List.length_cons, List.replicate_succ]
      have h2 := ListKit.set_at (p.map toBoxC) z161 (toBoxC x) (List.replicate q.length z161)
      rw [List.length_map, ← hi] at h2
      rw [h2]
      simp
    have e2 : p ++ x :: q = (p ++ [x]) ++ q := by simp
    refine EvKit.ev_to (Ev.congr (fun k => ?_) (ih (p ++ [x]) (i + 1) (by simp; omega) (by simp only [List.length_append, List.length_cons, List.length_nil]; omega) (fun y hy => he y (by simp [hy])))) (by rw [e2])
    rw [← e, ← e2]
    rfl
theorem laws_toBoxS.ev (l : List S159) (hl : l.length ≤ 1048576) (he : ∀ x ∈ l, x.f2.length ≤ 1048576) : Ev (fun k => laws_toBoxS.f k l) (l.map toBoxC) := by
  unfold laws_toBoxS.f
  exact EvKit.itt (by omega) (EvKit.itt (by omega) (laws_toBoxS.ev_l l [] 0 rfl (by simp; omega) he))
theorem rd_T161_drop (l : List S161) (i : Nat) (h : i < l.length) : l.drop i = rd_T161 l (i : Int) :: l.drop (i + 1) := by
  rw [List.drop_eq_getElem_cons h]
  simp [rd_T161, List.getD, List.getElem?_eq_getElem h]
theorem rd_T161_mem (l : List S161) (i : Nat) (h : i < l.length) : rd_T161 l (i : Int) ∈ l :=
  List.drop_subset i l (by rw [rd_T161_drop l i h]; exact List.mem_cons_self)
theorem laws_eqBoxS.ev_l (l : List S161) (hl : l.length ≤ 9223372036854775806) (he : ∀ x ∈ l, x.f2.length ≤ 9223372036854775806) : ∀ (d i : Nat), l.length - i = d → i ≤ l.length → Ev (fun k => laws_eqBoxS.l0 k l l (i : Int)) true := by
  intro d
  induction d with
  | zero =>
    intro i hd hi
    refine Ev.step (fun k => by rw [laws_eqBoxS.l0]) ?_
    exact EvKit.itf (by omega) (EvKit.ret rfl)
  | succ d ih =>
    intro i hd hi
    refine Ev.step (fun k => by rw [laws_eqBoxS.l0]) ?_
    refine EvKit.itt (by omega) (EvKit.itt (by omega) (EvKit.itt (by omega) (Ev.bind (laws_eqBox.ev _ _ _ _ (he _ (rd_T161_mem l i (by omega)))) (EvKit.itt rfl ?_))))
    rw [EvKit.w64 (n := (i : Int) + 1) (by omega) (by omega)]
    exact ih (i + 1) (by omega) (by omega)
theorem laws_eqBoxS.ev (l : List S161) (hl : l.length ≤ 9223372036854775806) (he : ∀ x ∈ l, x.f2.length ≤ 9223372036854775806) : Ev (fun k => laws_eqBoxS.f k l l) true := by
  unfold laws_eqBoxS.f
  exact EvKit.itt rfl (laws_eqBoxS.ev_l l hl he _ 0 rfl (by omega))
theorem boxes_len {l : List S159} (h : szBoxes l ≤ 1048576) : ∀ x ∈ l.map toBoxC, x.f2.length ≤ 9223372036854775806 := by
  intro x hx
  obtain ⟨y, hy, rfl⟩ := List.mem_map.1 hx
  have := szBoxes_mem hy
  simp only [toBoxC]
  omega

/-! ### markBoxS -/
def boxSz : List S161 → Nat
  | [] => 0
  | x :: l => x.f2.length + boxSz l
theorem boxSz_map : ∀ l : List S159, boxSz (l.map toBoxC) = szBoxes l
  | [] => rfl
  | x :: l => by simp only [List.map_cons, boxSz, szBoxes, boxSz_map l, toBoxC]
theorem laws_markBoxS.ev_g : ∀ (l : List S161) (v : Int), 0 ≤ v → v + 3 * (l.length : Int) + (boxSz l : Int) ≤ 4611686018427387904 → ∃ l', Ev (fun k => laws_markBoxS.go k l v) (v + 3 * (l.length : Int) + (boxSz l : Int), l')
  | [], v, _, _ => ⟨[], EvKit.ret (by simp [boxSz])⟩
  | x :: l, v, h0, h1 => by
    simp only [List.length_cons, boxSz] at h1
    have e1 : wrap64 (v + 1) = v + 1 := EvKit.w64 (by omega) (by omega)
    have e2 : wrap64 (v + 2) = v + 2 := EvKit.w64 (by omega) (by omega)
    have e6 : wrap64 (v + 2 + (x.f2.length : Int) + 1) = v + 3 + (x.f2.length : Int) := by rw [EvKit.w64 (by omega) (by omega)]; omega
    obtain ⟨l', h⟩ := laws_markBoxS.ev_g l (v + 3 + (x.f2.length : Int)) (by omega) (by omega)
    refine ⟨(⟨v, v + 1, markByteL (v + 2) x.f2, v + 2 + (x.f2.length : Int)⟩ : S161) :: l', ?_⟩
    simp only [laws_markBoxS.go, ListKit.w64w, Int.add_assoc, Int.reduceAdd, e1, e2]
    refine Ev.bind (laws_markByteS.ev x.f2 (v + 2) (by omega) (by omega)) ?_
    simp only [Int.add_assoc] at e6 h ⊢
    rw [e6]
    refine Ev.bind h (EvKit.ret ?_)
    refine Prod.ext ?_ rfl
    dsimp only
    simp only [List.length_cons, boxSz]
    omega
theorem laws_markBoxS.ev (l : List S161) (v : Int) (h0 : 0 ≤ v) (h1 : v + 3 * (l.length : Int) + (boxSz l : Int) ≤ 4611686018427387904) : ∃ l', Ev (fun k => laws_markBoxS.f k l v) (v + 3 * (l.length : Int) + (boxSz l : Int), l') := by
  obtain ⟨l', h⟩ := laws_markBoxS.ev_g l v h0 h1
  refine ⟨l', ?_⟩
  unfold laws_markBoxS.f
  exact EvKit.itt (by omega) h

/-! ### lists of sealed bundles -/
theorem laws_szSealedBundle.eq (a b : Int) (l : List Int) (c v : Int) (h0 : 0 ≤ v) (h1 : v ≤ 1048576) (hl : l.length ≤ 9223372036854775807) : laws_szSealedBundle.f a b l c v = some (if v < (l.length : Int) then -1 else v - (l.length : Int)) := by
  unfold laws_szSealedBundle.f
  rw [laws_szByteS.eq l v h0 h1 hl]
  simp only [Option.bind_some]
  by_cases h : v < (l.length : Int)
  · rw [if_pos h]; rfl
  · rw [if_neg h, if_neg (by omega)]
theorem laws_toSealedBundle.ev (a b : Int) (l : List Int) (c : Int) (hl : l.length ≤ 1048576) : Ev (fun k => laws_toSealedBundle.f k a b l c) (a, b, l, c) := by
  unfold laws_toSealedBundle.f
  exact Ev.bind (laws_toByteS.ev l hl) (EvKit.ret rfl)
theorem laws_eqSealedBundle.ev (a b : Int) (l : List Int) (c : Int) (hl : l.length ≤ 9223372036854775806) : Ev (fun k => laws_eqSealedBundle.f k a b l c a b l c) true := by
  unfold laws_eqSealedBundle.f
  exact EvKit.itt rfl (EvKit.itt rfl (Ev.bind (laws_eqByteS.ev l hl) (EvKit.itt rfl (EvKit.itt rfl (EvKit.ret rfl)))))
def toSealedBundleC (x : S85) : S71 := ⟨x.f0, x.f1, x.f2, x.f3⟩
def szSealeds : List S85 → Nat
  | [] => 0
  | x :: l => x.f2.length + szSealeds l
theorem szSealeds_mem {x : S85} : ∀ {l : List S85}, x ∈ l → x.f2.length ≤ szSealeds l
  | y :: l, h => by
    rcases List.mem_cons.1 h with rfl | h
    · simp [szSealeds]
    · have := szSealeds_mem h
      simp only [szSealeds]; omega
theorem rd_T85_drop (l : List S85) (i : Nat) (h : i < l.length) : l.drop i = rd_T85 l (i : Int) :: l.drop (i + 1) := by
  rw [List.drop_eq_getElem_cons h]
  simp [rd_T85, List.getD, List.getElem?_eq_getElem h]
theorem laws_szSealedBundleS.ev_l (l : List S85) (hl : l.length ≤ 9223372036854775806) (he : ∀ x ∈ l, x.f2.length ≤ 9223372036854775807) : ∀ (d i : Nat) (v : Int), l.length - i = d → i ≤ l.length → 0 ≤ v → v ≤ 1048576 →
    ∃ r, Ev (fun k => laws_szSealedBundleS.l0 k l v (i : Int)) r ∧ (0 ≤ r → r = v - (szSealeds (l.drop i) : Int)) ∧ r ≤ 1048576 := by
  intro d
  induction d with
  | zero =>
    intro i v hd hi h0 h1
    refine ⟨v, ?_, fun _ => ?_, h1⟩
    · refine Ev.step (fun k => by rw [laws_szSealedBundleS.l0]) ?_
      exact EvKit.itf (by omega) (EvKit.ret rfl)
    · rw [List.drop_of_length_le (by omega)]; simp [szSealeds]
  | succ d ih =>
    intro i v hd hi h0 h1
    have hr := rd_T85_drop l i (by omega)
    have hm : rd_T85 l (i : Int) ∈ l := List.drop_subset i l (by rw [hr]; exact List.mem_cons_self)
    have hb := he _ hm
    by_cases h : v < ((rd_T85 l (i : Int)).f2.length : Int)
    · refine ⟨-1, ?_, fun h => by omega, by omega⟩
      refine Ev.step (fun k => by rw [laws_szSealedBundleS.l0]) ?_
      refine EvKit.itt (by omega) (EvKit.itt (by omega) (EvKit.bnd (laws_szSealedBundle.eq _ _ _ _ _ h0 h1 hb) ?_))
      rw [if_pos h]
      exact EvKit.itt (by omega) (EvKit.ret rfl)
    · obtain ⟨r, h2, h3, h4⟩ := ih (i + 1) (v - ((rd_T85 l (i : Int)).f2.length : Int)) (by omega) (by omega) (by omega) (by omega)
      refine ⟨r, ?_, fun hr0 => ?_, h4⟩
      · refine Ev.step (fun k => by rw [laws_szSealedBundleS.l0]) ?_
        refine EvKit.itt (by omega) (EvKit.itt (by omega) (EvKit.bnd (laws_szSealedBundle.eq _ _ _ _ _ h0 h1 hb) ?_))
        rw [if_neg h]
        refine EvKit.itf (by omega) ?_
        rw [EvKit.w64 (n := (i : Int) + 1) (by omega) (by omega)]
        exact h2
      · rw [h3 hr0, hr]
        simp only [szSealeds]
        omega
theorem laws_szSealedBundleS.ev (l : List S85) (v : Int) (hl : l.length ≤ 9223372036854775807) (he : ∀ x ∈ l, x.f2.length ≤ 9223372036854775807) (h0 : 0 ≤ v) (h1 : v ≤ 1048576) :
    ∃ r, Ev (fun k => laws_szSealedBundleS.f k l v) r ∧ (0 ≤ r → r = v - (l.length : Int) - (szSealeds l : Int)) ∧ r ≤ 1048576 := by
  unfold laws_szSealedBundleS.f
  rw [EvKit.w64 (by omega) (by omega)]
  by_cases h : v - (l.length : Int) < 0
  · exact ⟨-1, EvKit.itt h (EvKit.ret rfl), fun h => by omega, by omega⟩
  · obtain ⟨r, h2, h3, h4⟩ := laws_szSealedBundleS.ev_l l (by omega) he _ 0 (v - (l.length : Int)) rfl (by omega) (by omega) (by omega)
    exact ⟨r, EvKit.itf h h2, fun h => by rw [h3 h]; simp, h4⟩
theorem rd_T85_at (p : List S85) (x : S85) (q : List S85) (i : Nat) (hi : i = p.length) : rd_T85 (p ++ x :: q) (i : Int) = x := by subst hi; simp [rd_T85]
theorem laws_toSealedBundleS.ev_l : ∀ (q p : List S85) (i : Nat), i = p.length → p.length + q.length ≤ 4611686018427387904 → (∀ x ∈ q, x.f2.length ≤ 1048576) →
    Ev (fun k => laws_toSealedBundleS.l0 k (p ++ q) (p.map toSealedBundleC ++ List.replicate q.length z71) (i : Int)) ((p ++ q).map toSealedBundleC) := by
  intro q
  induction q with
  | nil =>
    intro p i hi h he
    refine Ev.step (fun k => by rw [laws_toSealedBundleS.l0]) ?_
    exact EvKit.itf (by simp; omega) (EvKit.ret (by simp))
  | cons x q ih =>
    intro p i hi h he
    simp only [List.length_cons] at h
    refine Ev.step (fun k => by rw [laws_toSealedBundleS.l0]) ?_
    refine EvKit.itt (by simp only [List.length_append, List.length_cons]; omega) (EvKit.itt (by omega) ?_)
    rw [rd_T85_at p x q i hi]
    refine Ev.bind (laws_toSealedBundle.ev _ _ _ _ (he x (by simp))) ?_
    refine EvKit.itt (by simp only [List.length_append, List.length_map, List.length_replicate, List.length_cons]; omega) ?_
    rw [EvKit.w64 (n := (i : Int) + 1) (by omega) (by omega)]
    have e : (p.map toSealedBundleC ++ List.replicate (x :: q).length z71).set (i : Int).toNat (toSealedBundleC x) = (p ++ [x]).map toSealedBundleC ++ List.replicate q.length z71 := by
      rw [List.length_cons, List.replicate_succ]
      have h2 := ListKit.set_at (p.map toSealedBundleC) z71 (toSealedBundleC x) (List.replicate q.length z71)
      rw [List.length_map, ← hi] at h2
      rw [h2]
      simp
    have e2 : p ++ x :: q = (p ++ [x]) ++ q := by simp
    refine EvKit.ev_to (Ev.congr (fun k => ?_) (ih (p ++ [x]) (i + 1) (by simp; omega) (by simp only [List.length_append, List.length_cons, List.length_nil]; omega) (fun y hy => he y (by simp [hy])))) (by rw [e2])
    rw [← e, ← e2]
    rfl
theorem laws_toSealedBundleS.ev (l : List S85) (hl : l.length ≤ 1048576) (he : ∀ x ∈ l, x.f2.length ≤ 1048576) : Ev (fun k => laws_toSealedBundleS.f k l) (l.map toSealedBundleC) := by
  unfold laws_toSealedBundleS.f
  exact EvKit.itt (by omega) (EvKit.itt (by omega) (laws_toSealedBundleS.ev_l l [] 0 rfl (by simp; omega) he))
theorem rd_T71_drop (l : List S71) (i : Nat) (h : i < l.length) : l.drop i = rd_T71 l (i : Int) :: l.drop (i + 1) := by
  rw [List.drop_eq_getElem_cons h]
  simp [rd_T71, List.getD, List.getElem?_eq_getElem h]
theorem rd_T71_mem (l : List S71) (i : Nat) (h : i < l.length) : rd_T71 l (i : Int) ∈ l :=
  List.drop_subset i l (by rw [rd_T71_drop l i h]; exact List.mem_cons_self)
theorem laws_eqSealedBundleS.ev_l (l : List S71) (hl : l.length ≤ 9223372036854775806) (he : ∀ x ∈ l, x.f2.length ≤ 9223372036854775806) : ∀ (d i : Nat), l.length - i = d → i ≤ l.length → Ev (fun k => laws_eqSealedBundleS.l0 k l l (i : Int)) true := by
  intro d
  induction d with
  | zero =>
    intro i hd hi
    refine Ev.step (fun k => by rw [laws_eqSealedBundleS.l0]) ?_
    exact EvKit.itf (by omega) (EvKit.ret rfl)
  | succ d ih =>
    intro i hd hi
    refine Ev.step (fun k => by rw [laws_eqSealedBundleS.l0]) ?_
    refine EvKit.itt (by omega) (EvKit.itt (by omega) (EvKit.itt (by omega) (Ev.bind (laws_eqSealedBundle.ev _ _ _ _ (he _ (rd_T71_mem l i (by omega)))) (EvKit.itt rfl ?_))))
    rw [EvKit.w64 (n := (i : Int) + 1) (by omega) (by omega)]
    exact ih (i + 1) (by omega) (by omega)
theorem laws_eqSealedBundleS.ev (l : List S71) (hl : l.length ≤ 9223372036854775806) (he : ∀ x ∈ l, x.f2.length ≤ 9223372036854775806) : Ev (fun k => laws_eqSealedBundleS.f k l l) true := by
  unfold laws_eqSealedBundleS.f
  exact EvKit.itt rfl (laws_eqSealedBundleS.ev_l l hl he _ 0 rfl (by omega))
theorem sealeds_len {l : List S85} (h : szSealeds l ≤ 1048576) : ∀ x ∈ l.map toSealedBundleC, x.f2.length ≤ 9223372036854775806 := by
  intro x hx
  obtain ⟨y, hy, rfl⟩ := List.mem_map.1 hx
  have := szSealeds_mem hy
  simp only [toSealedBundleC]
  omega

/-! ### markSealedBundleS -/
def sealedSz : List S71 → Nat
  | [] => 0
  | x :: l => x.f2.length + sealedSz l
theorem sealedSz_map : ∀ l : List S85, sealedSz (l.map toSealedBundleC) = szSealeds l
  | [] => rfl
  | x :: l => by simp only [List.map_cons, sealedSz, szSealeds, sealedSz_map l, toSealedBundleC]
theorem laws_markSealedBundleS.ev_g : ∀ (l : List S71) (v : Int), 0 ≤ v → v + 3 * (l.length : Int) + (sealedSz l : Int) ≤ 4611686018427387904 → ∃ l', Ev (fun k => laws_markSealedBundleS.go k l v) (v + 3 * (l.length : Int) + (sealedSz l : Int), l')
  | [], v, _, _ => ⟨[], EvKit.ret (by simp [sealedSz])⟩
  | x :: l, v, h0, h1 => by
    simp only [List.length_cons, sealedSz] at h1
    have e1 : wrap64 (v + 1) = v + 1 := EvKit.w64 (by omega) (by omega)
    have e2 : wrap64 (v + 2) = v + 2 := EvKit.w64 (by omega) (by omega)
    have e6 : wrap64 (v + 2 + (x.f2.length : Int) + 1) = v + 3 + (x.f2.length : Int) := by rw [EvKit.w64 (by omega) (by omega)]; omega
    obtain ⟨l', h⟩ := laws_markSealedBundleS.ev_g l (v + 3 + (x.f2.length : Int)) (by omega) (by omega)
    refine ⟨(⟨v, v + 1, markByteL (v + 2) x.f2, v + 2 + (x.f2.length : Int)⟩ : S71) :: l', ?_⟩
    simp only [laws_markSealedBundleS.go, ListKit.w64w, Int.add_assoc, Int.reduceAdd, e1, e2]
    refine Ev.bind (laws_markByteS.ev x.f2 (v + 2) (by omega) (by omega)) ?_
    simp only [Int.add_assoc] at e6 h ⊢
    rw [e6]
    refine Ev.bind h (EvKit.ret ?_)
    refine Prod.ext ?_ rfl
    dsimp only
    simp only [List.length_cons, sealedSz]
    omega
theorem laws_markSealedBundleS.ev (l : List S71) (v : Int) (h0 : 0 ≤ v) (h1 : v + 3 * (l.length : Int) + (sealedSz l : Int) ≤ 4611686018427387904) : ∃ l', Ev (fun k => laws_markSealedBundleS.f k l v) (v + 3 * (l.length : Int) + (sealedSz l : Int), l') := by
  obtain ⟨l', h⟩ := laws_markSealedBundleS.ev_g l v h0 h1
  refine ⟨l', ?_⟩
  unfold laws_markSealedBundleS.f
  exact EvKit.itt (by omega) h

theorem laws_szEpochBoxes.ev (e : Int) (l : List S159) (v : Int) (hl : l.length ≤ 9223372036854775807) (he : ∀ x ∈ l, x.f2.length ≤ 9223372036854775807) (h0 : 0 ≤ v) (h1 : v ≤ 1048576) :
    ∃ r, Ev (fun k => laws_szEpochBoxes.f k e l v) r ∧ (0 ≤ r → r = v - (l.length : Int) - (szBoxes l : Int)) ∧ r ≤ 1048576 := by
  obtain ⟨r, h2, h3, h4⟩ := laws_szBoxS.ev l v hl he h0 h1
  unfold laws_szEpochBoxes.f
  by_cases h : r < 0
  · exact ⟨-1, Ev.bind h2 (EvKit.itt h (EvKit.ret rfl)), fun h => by omega, by omega⟩
  · exact ⟨r, Ev.bind h2 (EvKit.itf h (EvKit.ret rfl)), h3, h4⟩
theorem laws_toEpochBoxes.ev (e : Int) (l : List S159) (hl : l.length ≤ 1048576) (he : ∀ x ∈ l, x.f2.length ≤ 1048576) : Ev (fun k => laws_toEpochBoxes.f k e l) (e, l.map toBoxC) := by
  unfold laws_toEpochBoxes.f
  exact Ev.bind (laws_toBoxS.ev l hl he) (EvKit.ret rfl)
theorem laws_eqEpochBoxes.ev (e : Int) (l : List S161) (hl : l.length ≤ 9223372036854775806) (he : ∀ x ∈ l, x.f2.length ≤ 9223372036854775806) : Ev (fun k => laws_eqEpochBoxes.f k e l e l) true := by
  unfold laws_eqEpochBoxes.f
  exact EvKit.itt rfl (Ev.bind (laws_eqBoxS.ev l hl he) (EvKit.itt rfl (EvKit.ret rfl)))

theorem laws_szLogEntryS.eq (l : List S116) (v : Int) (h0 : 0 ≤ v) (h1 : v ≤ 1048576) (hl : l.length ≤ 9223372036854775807) : laws_szLogEntryS.f l v = some (if v < (l.length : Int) then -1 else v - (l.length : Int)) := by
  unfold laws_szLogEntryS.f
  rw [EvKit.w64 (by omega) (by omega)]
  by_cases h : v < (l.length : Int)
  · rw [if_pos (by omega), if_pos h]
  · rw [if_neg (by omega), if_neg h]

/-! ### toLogEntryS: the same list -/
def toLogEntryC (x : S116) : S114 := (⟨x.f0, x.f1, x.f2, x.f3, x.f4, x.f5⟩ : S114)
theorem rd_T116_at (p : List S116) (x : S116) (q : List S116) (i : Nat) (hi : i = p.length) : rd_T116 (p ++ x :: q) (i : Int) = x := by subst hi; simp [rd_T116]
theorem laws_toLogEntryS.ev_l : ∀ (q p : List S116) (i : Nat), i = p.length → p.length + q.length ≤ 4611686018427387904 →
    Ev (fun k => laws_toLogEntryS.l0 k (p ++ q) (p.map toLogEntryC ++ List.replicate q.length z114) (i : Int)) ((p ++ q).map toLogEntryC) := by
  intro q
  induction q with
  | nil =>
    intro p i hi h
    refine Ev.step (fun k => by rw [laws_toLogEntryS.l0]) ?_
    exact EvKit.itf (by simp; omega) (EvKit.ret (by simp))
  | cons x q ih =>
    intro p i hi h
    simp only [List.length_cons] at h
    refine Ev.step (fun k => by rw [laws_toLogEntryS.l0]) ?_
    refine EvKit.itt (by simp only [List.length_append, List.length_cons]; omega) (EvKit.itt (by omega) ?_)
    rw [rd_T116_at p x q i hi]
    simp only [laws_toLogEntry.f, Option.bind_some]
    refine EvKit.itt (by simp only [List.length_append, List.length_map, List.length_replicate, List.length_cons]; omega) ?_
    rw [EvKit.w64 (n := (i : Int) + 1) (by omega) (by omega)]
    have e : (p.map toLogEntryC ++ List.replicate (x :: q).length z114).set (i : Int).toNat (toLogEntryC x) = (p ++ [x]).map toLogEntryC ++ List.replicate q.length z114 := by
      rw [List.length_cons, List.replicate_succ]
      have h2 := ListKit.set_at (p.map toLogEntryC) z114 (toLogEntryC x) (List.replicate q.length z114)
      rw [List.length_map, ← hi] at h2
      rw [h2]
      simp
    have e2 : p ++ x :: q = (p ++ [x]) ++ q := by simp
    refine EvKit.ev_to (Ev.congr (fun k => ?_) (ih (p ++ [x]) (i + 1) (by simp; omega) (by simp only [List.length_append, List.length_cons, List.length_nil]; omega))) (by rw [e2])
    rw [← e, ← e2]
    rfl
theorem laws_toLogEntryS.ev (l : List S116) (hl : l.length ≤ 1048576) : Ev (fun k => laws_toLogEntryS.f k l) (l.map toLogEntryC) := by
  unfold laws_toLogEntryS.f
  exact EvKit.itt (by omega) (EvKit.itt (by omega) (laws_toLogEntryS.ev_l l [] 0 rfl (by simp; omega)))

theorem laws_eqLogEntry.refl (a0 a1 a2 a3 a4 a5 : Int) : laws_eqLogEntry.f a0 a1 a2 a3 a4 a5 a0 a1 a2 a3 a4 a5 = some true := by simp [laws_eqLogEntry.f]

/-! ### eqLogEntryS: a list and itself -/
theorem laws_eqLogEntryS.ev_l (l : List S114) (hl : l.length ≤ 9223372036854775806) : ∀ (d i : Nat), l.length - i = d → i ≤ l.length → Ev (fun k => laws_eqLogEntryS.l0 k l l (i : Int)) true := by
  intro d
  induction d with
  | zero =>
    intro i hd hi
    refine Ev.step (fun k => by rw [laws_eqLogEntryS.l0]) ?_
    exact EvKit.itf (by omega) (EvKit.ret rfl)
  | succ d ih =>
    intro i hd hi
    refine Ev.step (fun k => by rw [laws_eqLogEntryS.l0]) ?_
    refine EvKit.itt (by omega) (EvKit.itt (by omega) (EvKit.itt (by omega) (EvKit.bnd (laws_eqLogEntry.refl ..) (EvKit.itt rfl ?_))))
    rw [EvKit.w64 (n := (i : Int) + 1) (by omega) (by omega)]
    exact ih (i + 1) (by omega) (by omega)
theorem laws_eqLogEntryS.ev (l : List S114) (hl : l.length ≤ 9223372036854775806) : Ev (fun k => laws_eqLogEntryS.f k l l) true := by
  unfold laws_eqLogEntryS.f
  exact EvKit.itt rfl (laws_eqLogEntryS.ev_l l hl _ 0 rfl (by omega))

/-! ### cloud: its size, the same cloud, a cloud and itself -/
theorem laws_szCloud.ev (l : List S116) (a : Int) (b : List S159) (s : List S85) (v : Int) (hl : l.length ≤ 9223372036854775807) (hb : b.length ≤ 9223372036854775807) (hb2 : ∀ x ∈ b, x.f2.length ≤ 9223372036854775807) (hs : s.length ≤ 9223372036854775807) (hs2 : ∀ x ∈ s, x.f2.length ≤ 9223372036854775807) (h0 : 0 ≤ v) (h1 : v ≤ 1048576) :
    ∃ r, Ev (fun k => laws_szCloud.f k l a b s v) r ∧ (0 ≤ r → r = v - (l.length : Int) - (b.length : Int) - (szBoxes b : Int) - (s.length : Int) - (szSealeds s : Int)) ∧ r ≤ 1048576 := by
  unfold laws_szCloud.f
  by_cases c1 : v < (l.length : Int)
  · refine ⟨-1, ?_, fun h => by omega, by omega⟩
    refine EvKit.bnd (laws_szLogEntryS.eq l v h0 h1 hl) ?_
    rw [if_pos c1]
    exact EvKit.itt (by omega) (EvKit.ret rfl)
  · obtain ⟨r, h2, h3, h4⟩ := laws_szEpochBoxes.ev a b (v - (l.length : Int)) hb hb2 (by omega) (by omega)
    by_cases c2 : r < 0
    · refine ⟨-1, ?_, fun h => by omega, by omega⟩
      refine EvKit.bnd (laws_szLogEntryS.eq l v h0 h1 hl) ?_
      rw [if_neg c1]
      exact EvKit.itf (by omega) (Ev.bind h2 (EvKit.itt c2 (EvKit.ret rfl)))
    · obtain ⟨q, h5, h6, h7⟩ := laws_szSealedBundleS.ev s r hs hs2 (by omega) h4
      by_cases c3 : q < 0
      · refine ⟨-1, ?_, fun h => by omega, by omega⟩
        refine EvKit.bnd (laws_szLogEntryS.eq l v h0 h1 hl) ?_
        rw [if_neg c1]
        exact EvKit.itf (by omega) (Ev.bind h2 (EvKit.itf c2 (Ev.bind h5 (EvKit.itt c3 (EvKit.ret rfl)))))
      · refine ⟨q, ?_, fun h => ?_, h7⟩
        · refine EvKit.bnd (laws_szLogEntryS.eq l v h0 h1 hl) ?_
          rw [if_neg c1]
          exact EvKit.itf (by omega) (Ev.bind h2 (EvKit.itf c2 (Ev.bind h5 (EvKit.itf c3 (EvKit.ret rfl)))))
        · have := h6 h
          have := h3 (by omega)
          omega
theorem laws_toCloud.ev (l : List S116) (a : Int) (b : List S159) (s : List S85) (hl : l.length ≤ 1048576) (hb : b.length ≤ 1048576) (hb2 : ∀ x ∈ b, x.f2.length ≤ 1048576) (hs : s.length ≤ 1048576) (hs2 : ∀ x ∈ s, x.f2.length ≤ 1048576) : Ev (fun k => laws_toCloud.f k l a b s) (l.map toLogEntryC, a, b.map toBoxC, s.map toSealedBundleC) := by
  unfold laws_toCloud.f
  exact Ev.bind (laws_toLogEntryS.ev l hl) (Ev.bind (laws_toEpochBoxes.ev a b hb hb2) (Ev.bind (laws_toSealedBundleS.ev s hs hs2) (EvKit.ret rfl)))
theorem laws_eqCloud.ev (l : List S114) (a : Int) (b : List S161) (s : List S71) (hl : l.length ≤ 9223372036854775806) (hb : b.length ≤ 9223372036854775806) (hb2 : ∀ x ∈ b, x.f2.length ≤ 9223372036854775806) (hs : s.length ≤ 9223372036854775806) (hs2 : ∀ x ∈ s, x.f2.length ≤ 9223372036854775806) : Ev (fun k => laws_eqCloud.f k l a b s l a b s) true := by
  unfold laws_eqCloud.f
  exact Ev.bind (laws_eqLogEntryS.ev l hl) (EvKit.itt rfl (Ev.bind (laws_eqEpochBoxes.ev a b hb hb2) (EvKit.itt rfl (Ev.bind (laws_eqSealedBundleS.ev s hs hs2) (EvKit.itt rfl (EvKit.ret rfl))))))

theorem laws_markCloud.ev (l : List S114) (a : Int) (b : List S161) (s : List S71) (v : Int) (h0 : 0 ≤ v) (h1 : v + 6 * (l.length : Int) + 3 * (b.length : Int) + (boxSz b : Int) + 3 * (s.length : Int) + (sealedSz s : Int) ≤ 4611686018427387904) :
    ∃ b' s', Ev (fun k => laws_markCloud.f k l a b s v) (v + 6 * (l.length : Int) + 3 * (b.length : Int) + (boxSz b : Int) + 3 * (s.length : Int) + (sealedSz s : Int), markLogEntryL v l, b', s') := by
  obtain ⟨b', h2⟩ := laws_markBoxS.ev b (v + 6 * (l.length : Int)) (by omega) (by omega)
  obtain ⟨s', h3⟩ := laws_markSealedBundleS.ev s (v + 6 * (l.length : Int) + 3 * (b.length : Int) + (boxSz b : Int)) (by omega) (by omega)
  have h4 : Ev (fun k => laws_markEpochBoxes.f k a b (v + 6 * (l.length : Int))) (v + 6 * (l.length : Int) + 3 * (b.length : Int) + (boxSz b : Int), b') := by
    unfold laws_markEpochBoxes.f
    exact Ev.bind h2 (EvKit.ret rfl)
  refine ⟨b', s', ?_⟩
  unfold laws_markCloud.f
  exact Ev.bind (laws_markLogEntryS.ev l v h0 (by omega)) (Ev.bind h4 (Ev.bind h3 (EvKit.ret rfl)))

/-! ### markIntS -/
def markIntL : Int → List Int → List Int
  | _, [] => []
  | v, _ :: l => v :: markIntL (v + 1) l
theorem laws_markIntS.ev_l : ∀ (q p : List Int) (v : Int) (i : Nat), i = p.length → 0 ≤ v → v + (q.length : Int) ≤ 4611686018427387904 → p.length + q.length ≤ 4611686018427387904 →
    Ev (fun k => laws_markIntS.l0 k (p ++ q) v (i : Int)) (v + (q.length : Int), p ++ markIntL v q) := by
  intro q
  induction q with
  | nil =>
    intro p v i hi h0 h1 h2
    subst hi
    refine Ev.step (fun k => by rw [laws_markIntS.l0]) ?_
    exact EvKit.itf (by simp) (EvKit.ret (by simp [markIntL]))
  | cons x q ih =>
    intro p v i hi h0 h1 h2
    subst hi
    simp only [List.length_cons] at h1 h2
    have e1 : wrap64 (v + 1) = v + 1 := EvKit.w64 (by omega) (by omega)
    have ep : wrap64 ((p.length : Int) + 1) = (p.length : Int) + 1 := EvKit.w64 (by omega) (by omega)
    refine Ev.step (fun k => by rw [laws_markIntS.l0]) ?_
    refine EvKit.itt (by simp only [List.length_append, List.length_cons]; omega) (EvKit.itt (by omega) ?_)
    simp only [ListKit.set_at, e1, ep]
    rw [ListKit.shift p _ q]
    refine EvKit.ev_to (ih (p ++ [_]) (v + 1) (p.length + 1) (by simp) (by omega) (by omega) (by simp only [List.length_append, List.length_cons, List.length_nil]; omega)) ?_
    simp only [markIntL, List.append_assoc, List.cons_append, List.nil_append, List.length_cons]
    refine Prod.ext ?_ rfl
    show v + 1 + (q.length : Int) = v + ((q.length + 1 : Nat) : Int)
    omega
theorem laws_markIntS.ev (l : List Int) (v : Int) (h0 : 0 ≤ v) (h1 : v + (l.length : Int) ≤ 4611686018427387904) : Ev (fun k => laws_markIntS.f k l v) (v + (l.length : Int), markIntL v l) := by
  unfold laws_markIntS.f
  exact laws_markIntS.ev_l l [] v 0 rfl h0 h1 (by simp; omega)

theorem laws_heldIntS.ev_l : ∀ (q p : List Int) (v : Int) (i : Nat), i = p.length → 0 ≤ v → v + (q.length : Int) ≤ 4611686018427387904 → p.length + q.length ≤ 4611686018427387904 →
    Ev (fun k => laws_heldIntS.l0 k (p ++ markIntL v q) v (i : Int)) (v + (q.length : Int)) := by
  intro q
  induction q with
  | nil =>
    intro p v i hi h0 h1 h2
    subst hi
    refine Ev.step (fun k => by rw [laws_heldIntS.l0]) ?_
    exact EvKit.itf (by simp [markIntL]) (EvKit.ret (by simp))
  | cons x q ih =>
    intro p v i hi h0 h1 h2
    subst hi
    simp only [List.length_cons] at h1 h2
    have e1 : wrap64 (v + 1) = v + 1 := EvKit.w64 (by omega) (by omega)
    have ep : wrap64 ((p.length : Int) + 1) = (p.length : Int) + 1 := EvKit.w64 (by omega) (by omega)
    simp only [markIntL]
    refine Ev.step (fun k => by rw [laws_heldIntS.l0]) ?_
    refine EvKit.itt (by simp only [List.length_append, List.length_cons]; omega) (EvKit.itt (by omega) ?_)
    rw [rd_at_ p v _ p.length rfl]
    refine EvKit.itt rfl ?_
    simp only [e1, ep]
    rw [ListKit.shift p _ (markIntL (v + 1) q)]
    refine EvKit.ev_to (ih (p ++ [_]) (v + 1) (p.length + 1) (by simp) (by omega) (by omega) (by simp only [List.length_append, List.length_cons, List.length_nil]; omega)) ?_
    simp only [List.length_cons]
    omega
theorem laws_heldIntS.ev (l : List Int) (v : Int) (h0 : 0 ≤ v) (h1 : v + (l.length : Int) ≤ 4611686018427387904) : Ev (fun k => laws_heldIntS.f k (markIntL v l) v) (v + (l.length : Int)) := by
  unfold laws_heldIntS.f
  exact laws_heldIntS.ev_l l [] v 0 rfl h0 h1 (by simp; omega)

/-! ### eqIntS -/
theorem laws_eqIntS.ev_l (l : List Int) (hl : l.length ≤ 9223372036854775806) : ∀ (d i : Nat), l.length - i = d → i ≤ l.length → Ev (fun k => laws_eqIntS.l0 k l l (i : Int)) true := by
  intro d
  induction d with
  | zero =>
    intro i hd hi
    refine Ev.step (fun k => by rw [laws_eqIntS.l0]) ?_
    exact EvKit.itf (by omega) (EvKit.ret rfl)
  | succ d ih =>
    intro i hd hi
    refine Ev.step (fun k => by rw [laws_eqIntS.l0]) ?_
    refine EvKit.itt (by omega) (EvKit.itt (by omega) (EvKit.itt (by omega) (EvKit.itt rfl ?_)))
    rw [EvKit.w64 (n := (i : Int) + 1) (by omega) (by omega)]
    exact ih (i + 1) (by omega) (by omega)
theorem laws_eqIntS.ev (l : List Int) (hl : l.length ≤ 9223372036854775806) : Ev (fun k => laws_eqIntS.f k l l) true := by
  unfold laws_eqIntS.f
  exact EvKit.itt rfl (laws_eqIntS.ev_l l hl _ 0 rfl (by omega))

def neLogEntry (x y : S114) : Bool := !(x.f0 == y.f0) || (!(x.f1 == y.f1) || (!(x.f2 == y.f2) || (!(x.f3 == y.f3) || (!(x.f4 == y.f4) || (!(x.f5 == y.f5))))))
def sameLogEntry : List S114 → List S114 → Bool
  | x :: l, y :: m => if neLogEntry x y = true then false else sameLogEntry l m
  | _, _ => true
theorem rd_T114_drop (l : List S114) (i : Nat) (h : i < l.length) : l.drop i = rd_T114 l (i : Int) :: l.drop (i + 1) := by
  rw [List.drop_eq_getElem_cons h]
  simp [rd_T114, List.getD, List.getElem?_eq_getElem h]

/-! ### has: is a number in a list -/
theorem rd_dropN (l : List Int) (i : Nat) (h : i < l.length) : l.drop i = rd l (i : Int) :: l.drop (i + 1) := by
  rw [List.drop_eq_getElem_cons h]
  simp [rd, List.getD, List.getElem?_eq_getElem h]
def hasB : List Int → Int → Bool
  | [], _ => false
  | x :: l, v => if x = v then true else hasB l v
theorem impl_has.ev (l : List Int) (v : Int) (hl : l.length ≤ 9223372036854775806) : Ev (fun k => impl_has.f k l v) (hasB l v) := by
  unfold impl_has.f
  have h : ∀ (d i : Nat), l.length - i = d → i ≤ l.length → Ev (fun k => impl_has.l0 k v l (l.length : Int) (i : Int)) (hasB (l.drop i) v) := by
    intro d
    induction d with
    | zero =>
      intro i hd hi
      refine Ev.step (fun k => by rw [impl_has.l0]) ?_
      rw [List.drop_of_length_le (by omega)]
      exact EvKit.itf (by omega) (EvKit.ret rfl)
    | succ d ih =>
      intro i hd hi
      refine Ev.step (fun k => by rw [impl_has.l0]) ?_
      rw [rd_dropN l i (by omega), hasB, EvKit.w64 (n := (i : Int) + 1) (by omega) (by omega)]
      refine EvKit.itt (by omega) (EvKit.itt (by omega) (EvKit.itt (by omega) (EvKit.ite (fun h => ?_) (fun h => ?_))))
      · rw [if_pos h]; exact EvKit.ret rfl
      · rw [if_neg h]; exact ih (i + 1) (by omega) (by omega)
  exact h _ 0 rfl (by omega)

/-! ### devicesof: the devices of a log, and its epoch -/
theorem spec_l19Has.ev (l : List Int) (v : Int) (hl : l.length ≤ 9223372036854775806) : Ev (fun k => spec_l19Has.f k l v) (hasB l v) := by
  unfold spec_l19Has.f
  have h : ∀ (d i : Nat), l.length - i = d → i ≤ l.length → Ev (fun k => spec_l19Has.l0 k l v (i : Int)) (hasB (l.drop i) v) := by
    intro d
    induction d with
    | zero =>
      intro i hd hi
      refine Ev.step (fun k => by rw [spec_l19Has.l0]) ?_
      rw [List.drop_of_length_le (by omega)]
      exact EvKit.itf (by omega) (EvKit.ret rfl)
    | succ d ih =>
      intro i hd hi
      refine Ev.step (fun k => by rw [spec_l19Has.l0]) ?_
      rw [rd_dropN l i (by omega), hasB, EvKit.w64 (n := (i : Int) + 1) (by omega) (by omega)]
      refine EvKit.itt (by omega) (EvKit.itt (by omega) (EvKit.ite (fun h => ?_) (fun h => ?_)))
      · rw [if_pos h]; exact EvKit.ret rfl
      · rw [if_neg h]; exact ih (i + 1) (by omega) (by omega)
  exact h _ 0 rfl (by omega)
def without (v : Int) : List Int → List Int
  | [] => []
  | x :: l => if x = v then without v l else x :: without v l
theorem without_len (v : Int) : ∀ l, (without v l).length ≤ l.length
  | [] => by simp [without]
  | x :: l => by
    have := without_len v l
    unfold without
    split <;> simp <;> omega
def devStep (p : List Int) (x : S114) : List Int :=
  if x.f1 = 1 then (if hasB p x.f2 = true then p else p ++ [x.f2]) else (if x.f1 = 2 then without x.f2 p else p)
theorem devStep_len (p : List Int) (x : S114) : (devStep p x).length ≤ p.length + 1 := by
  unfold devStep
  have := without_len x.f2 p
  repeat' split
  all_goals simp
  all_goals omega
def devicesL : List Int → List S114 → List Int
  | p, [] => p
  | p, x :: l => devicesL (devStep p x) l
theorem devicesL_len : ∀ (l : List S114) (p : List Int), (devicesL p l).length ≤ p.length + l.length
  | [], p => by simp [devicesL]
  | x :: l, p => by
    have h1 := devicesL_len l (devStep p x)
    have h2 := devStep_len p x
    simp only [devicesL, List.length_cons]
    omega
theorem spec_DevicesOf.ev_1 (l : List S114) (i : Nat) (hi : i < l.length) (hl : l.length ≤ 1048576) (p : List Int) (v : Int) (r : List Int) (hp : p.length ≤ 1048576)
    (h : Ev (fun k => spec_DevicesOf.l0 k l (without v p) ((i : Int) + 1)) r) : ∀ (d j : Nat) (q : List Int), p.length - j = d → j ≤ p.length → q.length ≤ j → q ++ without v (p.drop j) = without v p → Ev (fun k => spec_DevicesOf.l1 k l p (i : Int) v q (j : Int)) r := by
  intro d
  induction d with
  | zero =>
    intro j q hd hj hq he
    refine Ev.step (fun k => by rw [spec_DevicesOf.l1]) ?_
    rw [List.drop_of_length_le (by omega), without, List.append_nil] at he
    rw [EvKit.w64 (n := (i : Int) + 1) (by omega) (by omega), he]
    exact EvKit.itf (by omega) h
  | succ d ih =>
    intro j q hd hj hq he
    refine Ev.step (fun k => by rw [spec_DevicesOf.l1]) ?_
    rw [rd_dropN p j (by omega), without] at he
    rw [EvKit.w64 (n := (j : Int) + 1) (by omega) (by omega)]
    refine EvKit.itt (by omega) (EvKit.itt (by omega) (EvKit.ite (fun hc => ?_) (fun hc => ?_)))
    · rw [if_pos hc] at he
      exact ih (j + 1) q (by omega) (by omega) (by omega) he
    · rw [if_neg hc] at he
      exact EvKit.itt (by omega) (ih (j + 1) (q ++ [rd p (j : Int)]) (by omega) (by omega) (by simp; omega) (by simpa using he))
theorem spec_DevicesOf.ev_0 (l : List S114) (hl : l.length ≤ 1048576) : ∀ (d i : Nat) (p : List Int), l.length - i = d → i ≤ l.length → p.length ≤ i → Ev (fun k => spec_DevicesOf.l0 k l p (i : Int)) (devicesL p (l.drop i)) := by
  intro d
  induction d with
  | zero =>
    intro i p hd hi hp
    refine Ev.step (fun k => by rw [spec_DevicesOf.l0]) ?_
    rw [List.drop_of_length_le (by omega), devicesL]
    exact EvKit.itf (by omega) (EvKit.ret rfl)
  | succ d ih =>
    intro i p hd hi hp
    have hs := devStep_len p (rd_T114 l (i : Int))
    have hn := ih (i + 1) (devStep p (rd_T114 l (i : Int))) (by omega) (by omega) (by omega)
    refine Ev.step (fun k => by rw [spec_DevicesOf.l0]) ?_
    rw [rd_T114_drop l i (by omega), devicesL]
    refine EvKit.itt (by omega) (EvKit.itt (by omega) ?_)
    unfold devStep at hn ⊢
    by_cases c1 : (rd_T114 l (i : Int)).f1 = 1
    · rw [if_pos c1] at hn ⊢
      refine EvKit.itt c1 (Ev.bind (spec_l19Has.ev _ _ (by omega)) ?_)
      refine Ev.step (fun k => by rw [spec_DevicesOf.j1]) ?_
      by_cases c2 : hasB p (rd_T114 l (i : Int)).f2 = true
      · rw [if_pos c2] at hn ⊢
        refine EvKit.itf (by simp [c2]) (EvKit.itt (by omega) (EvKit.itt (by omega) (EvKit.itf (by omega) ?_)))
        rw [EvKit.w64 (n := (i : Int) + 1) (by omega) (by omega)]
        exact hn
      · rw [if_neg c2] at hn ⊢
        refine EvKit.itt (by simp [c2]) (EvKit.itt (by omega) ?_)
        rw [EvKit.w64 (n := (i : Int) + 1) (by omega) (by omega)]
        exact hn
    · rw [if_neg c1] at hn ⊢
      refine EvKit.itf c1 ?_
      refine Ev.step (fun k => by rw [spec_DevicesOf.j1]) ?_
      refine EvKit.itf (by simp) (EvKit.itt (by omega) (EvKit.itt (by omega) ?_))
      by_cases c2 : (rd_T114 l (i : Int)).f1 = 2
      · rw [if_pos c2] at hn ⊢
        exact EvKit.itt c2 (spec_DevicesOf.ev_1 l i (by omega) hl p _ _ (by omega) hn _ 0 [] rfl (by omega) (by simp) (by simp))
      · rw [if_neg c2] at hn ⊢
        rw [EvKit.w64 (n := (i : Int) + 1) (by omega) (by omega)]
        exact EvKit.itf c2 hn
theorem spec_DevicesOf.ev (l : List S114) (hl : l.length ≤ 1048576) : Ev (fun k => spec_DevicesOf.f k l) (devicesL [] l) := by
  unfold spec_DevicesOf.f
  exact spec_DevicesOf.ev_0 l hl _ 0 [] rfl (by omega) (by simp)
theorem impl_DevicesOf.ev_1 (l : List S114) (i : Nat) (hi : i < l.length) (hl : l.length ≤ 1048576) (p : List Int) (x0 x1 v x3 x4 x5 : Int) (r : List Int) (hp : p.length ≤ 1048576)
    (h : Ev (fun k => impl_DevicesOf.l0 k (without v p) l (l.length : Int) ((i : Int) + 1)) r) : ∀ (d j : Nat) (q : List Int), p.length - j = d → j ≤ p.length → q.length ≤ j → q ++ without v (p.drop j) = without v p → Ev (fun k => impl_DevicesOf.l1 k q l (l.length : Int) (i : Int) p (p.length : Int) (j : Int) x0 x1 v x3 x4 x5) r := by
  intro d
  induction d with
  | zero =>
    intro j q hd hj hq he
    refine Ev.step (fun k => by rw [impl_DevicesOf.l1]) ?_
    rw [List.drop_of_length_le (by omega), without, List.append_nil] at he
    rw [EvKit.w64 (n := (i : Int) + 1) (by omega) (by omega), he]
    exact EvKit.itf (by omega) h
  | succ d ih =>
    intro j q hd hj hq he
    refine Ev.step (fun k => by rw [impl_DevicesOf.l1]) ?_
    rw [rd_dropN p j (by omega), without] at he
    rw [EvKit.w64 (n := (j : Int) + 1) (by omega) (by omega)]
    refine EvKit.itt (by omega) (EvKit.itt (by omega) (EvKit.itt (by omega) (EvKit.ite (fun hc => ?_) (fun hc => ?_))))
    · rw [if_pos hc] at he
      exact ih (j + 1) q (by omega) (by omega) (by omega) he
    · rw [if_neg hc] at he
      exact EvKit.itt (by omega) (ih (j + 1) (q ++ [rd p (j : Int)]) (by omega) (by omega) (by simp; omega) (by simpa using he))
theorem impl_DevicesOf.ev_0 (l : List S114) (hl : l.length ≤ 1048576) : ∀ (d i : Nat) (p : List Int), l.length - i = d → i ≤ l.length → p.length ≤ i → Ev (fun k => impl_DevicesOf.l0 k p l (l.length : Int) (i : Int)) (devicesL p (l.drop i)) := by
  intro d
  induction d with
  | zero =>
    intro i p hd hi hp
    refine Ev.step (fun k => by rw [impl_DevicesOf.l0]) ?_
    rw [List.drop_of_length_le (by omega), devicesL]
    exact EvKit.itf (by omega) (EvKit.ret rfl)
  | succ d ih =>
    intro i p hd hi hp
    have hs := devStep_len p (rd_T114 l (i : Int))
    have hn := ih (i + 1) (devStep p (rd_T114 l (i : Int))) (by omega) (by omega) (by omega)
    refine Ev.step (fun k => by rw [impl_DevicesOf.l0]) ?_
    rw [rd_T114_drop l i (by omega), devicesL]
    refine EvKit.itt (by omega) (EvKit.itt (by omega) (EvKit.itt (by omega) ?_))
    unfold devStep at hn ⊢
    by_cases c1 : (rd_T114 l (i : Int)).f1 = 1
    · rw [if_pos c1] at hn ⊢
      refine EvKit.itt c1 (Ev.bind (impl_has.ev _ _ (by omega)) ?_)
      rw [EvKit.w64 (n := (i : Int) + 1) (by omega) (by omega)]
      by_cases c2 : hasB p (rd_T114 l (i : Int)).f2 = true
      · rw [if_pos c2] at hn ⊢
        exact EvKit.itt c2 hn
      · rw [if_neg c2] at hn ⊢
        exact EvKit.itf c2 (EvKit.itt (by omega) hn)
    · rw [if_neg c1] at hn ⊢
      refine EvKit.itf c1 ?_
      by_cases c2 : (rd_T114 l (i : Int)).f1 = 2
      · rw [if_pos c2] at hn ⊢
        exact EvKit.itt c2 (impl_DevicesOf.ev_1 l i (by omega) hl p _ _ _ _ _ _ _ (by omega) hn _ 0 [] rfl (by omega) (by simp) (by simp))
      · rw [if_neg c2] at hn ⊢
        rw [EvKit.w64 (n := (i : Int) + 1) (by omega) (by omega)]
        exact EvKit.itf c2 hn
theorem impl_DevicesOf.ev (l : List S114) (hl : l.length ≤ 1048576) : Ev (fun k => impl_DevicesOf.f k l) (devicesL [] l) := by
  unfold impl_DevicesOf.f
  exact impl_DevicesOf.ev_0 l hl _ 0 [] rfl (by omega) (by simp)

/-! ### CloudView -/
def viewS : List S71 → List Int
  | [] => []
  | x :: l => [x.f0, x.f1, (x.f2.length : Int)] ++ viewS l
theorem viewS_len : ∀ l, (viewS l).length = 3 * l.length
  | [] => rfl
  | x :: l => by simp only [viewS, List.length_append, List.length_cons, List.length_nil, viewS_len l]; omega
theorem spec_CloudView.ev_l (l : List S114) (a : Int) (b : List S161) (s : List S71) (hs : s.length ≤ 1048576) : ∀ (d i : Nat) (p : List Int), s.length - i = d → i ≤ s.length → p.length = 2 + 3 * i → Ev (fun k => spec_CloudView.l0 k p (i : Int) l a b s) (p ++ viewS (s.drop i)) := by
  intro d
  induction d with
  | zero =>
    intro i p hd hi hp
    refine Ev.step (fun k => by rw [spec_CloudView.l0]) ?_
    rw [List.drop_of_length_le (by omega)]
    exact EvKit.itf (by omega) (EvKit.ret (by simp [viewS]))
  | succ d ih =>
    intro i p hd hi hp
    refine Ev.step (fun k => by rw [spec_CloudView.l0]) ?_
    rw [rd_T71_drop s i (by omega), EvKit.w64 (n := (i : Int) + 1) (by omega) (by omega)]
    refine EvKit.itt (by omega) (EvKit.itt (by omega) (EvKit.now (EvKit.itt (by simp only [List.length_cons, List.length_nil]; omega) (EvKit.ev_to (ih (i + 1) (p ++ [(rd_T71 s (i : Int)).f0, (rd_T71 s (i : Int)).f1, ((rd_T71 s (i : Int)).f2.length : Int)]) (by omega) (by omega) (by simp only [List.length_append, List.length_cons, List.length_nil]; omega)) ?_))))
    simp only [viewS, List.append_assoc]
theorem spec_CloudView.ev (l : List S114) (a : Int) (b : List S161) (s : List S71) (hl : l.length ≤ 1048576) (hs : s.length ≤ 1048576) : Ev (fun k => spec_CloudView.f k l a b s) ([(l.length : Int), ((devicesL [] l).length : Int)] ++ viewS s) := by
  unfold spec_CloudView.f
  exact Ev.bind (spec_DevicesOf.ev l hl) (EvKit.ev_to (spec_CloudView.ev_l l a b s hs _ 0 _ rfl (by omega) rfl) (by simp))
theorem impl_CloudView.ev_l (s : List S71) (hs : s.length ≤ 1048576) : ∀ (d i : Nat) (p : List Int), s.length - i = d → i ≤ s.length → p.length = 2 + 3 * i → Ev (fun k => impl_CloudView.l0 k p s (s.length : Int) (i : Int)) (p ++ viewS (s.drop i)) := by
  intro d
  induction d with
  | zero =>
    intro i p hd hi hp
    refine Ev.step (fun k => by rw [impl_CloudView.l0]) ?_
    rw [List.drop_of_length_le (by omega)]
    exact EvKit.itf (by omega) (EvKit.ret (by simp [viewS]))
  | succ d ih =>
    intro i p hd hi hp
    refine Ev.step (fun k => by rw [impl_CloudView.l0]) ?_
    rw [rd_T71_drop s i (by omega), EvKit.w64 (n := (i : Int) + 1) (by omega) (by omega)]
    refine EvKit.itt (by omega) (EvKit.itt (by omega) (EvKit.itt (by omega) (EvKit.now (EvKit.itt (by simp only [List.length_cons, List.length_nil]; omega) (EvKit.ev_to (ih (i + 1) (p ++ [(rd_T71 s (i : Int)).f0, (rd_T71 s (i : Int)).f1, ((rd_T71 s (i : Int)).f2.length : Int)]) (by omega) (by omega) (by simp only [List.length_append, List.length_cons, List.length_nil]; omega)) ?_)))))
    simp only [viewS, List.append_assoc]
theorem impl_CloudView.ev (l : List S114) (a : Int) (b : List S161) (s : List S71) (hl : l.length ≤ 1048576) (hs : s.length ≤ 1048576) : Ev (fun k => impl_CloudView.f k l a b s) ([(l.length : Int), ((devicesL [] l).length : Int)] ++ viewS s) := by
  unfold impl_CloudView.f
  exact Ev.bind (impl_DevicesOf.ev l hl) (EvKit.ev_to (impl_CloudView.ev_l s hs _ 0 _ rfl (by omega) rfl) (by simp))

end Go.Proofs.Ytkmndimmglghoaa.QFnExactCloudView
