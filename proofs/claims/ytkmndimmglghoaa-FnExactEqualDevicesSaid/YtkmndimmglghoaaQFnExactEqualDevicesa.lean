/- What the printed functions of FnExactEqualDevices come to, in plain terms; no condition beyond those in each theorem. -/
import Derived.Test.YtkmndimmglghoaaRFnExactEqualDevices
set_option linter.unusedVariables false
set_option linter.unusedSimpArgs false
namespace Go.Proofs.Ytkmndimmglghoaa.QFnExactEqualDevices
open Go.RowKit Go.Proofs.Ytkmndimmglghoaa.PFnExactEqualDevices Go.Proofs.YtkmndimmglghoaaW.PrintWords Go.Proofs.YtkmndimmglghoaaW.PrintLast Go.Proofs.Ytkmndimmglghoaa.RFnExactEqualDevices
/-! ### evkit: steps for printed functions -/
namespace EvKit
theorem w64 {n : Int} (h0 : -9223372036854775808 ≤ n) (h1 : n ≤ 9223372036854775807) : wrap64 n = n := by unfold wrap64; omega
section
variable {α β : Type}
theorem ret {x r : α} (h : x = r) : Ev (fun _ => some x) r := ⟨0, fun _ _ => by rw [h]⟩
theorem eqv {x : Option α} {r : α} (h : x = some r) : Ev (fun _ => x) r := ⟨0, fun _ _ => h⟩
theorem itt {c : Prop} [Decidable c] {a b : Nat → Option α} {r : α} (hc : c) (h : Ev a r) : Ev (fun k => if c then a k else b k) r := Ev.congr (fun _ => if_pos hc) h
theorem itf {c : Prop} [Decidable c] {a b : Nat → Option α} {r : α} (hc : ¬ c) (h : Ev b r) : Ev (fun k => if c then a k else b k) r := Ev.congr (fun _ => if_neg hc) h
theorem ite {c : Prop} [Decidable c] {a b : Nat → Option α} {r : α} (h : c → Ev a r) (h' : ¬ c → Ev b r) : Ev (fun k => if c then a k else b k) r := by
  by_cases hc : c
  · exact itt hc (h hc)
  · exact itf hc (h' hc)
theorem now {x : α} {f : Nat → α → Option β} {r : β} (h : Ev (fun n => f n x) r) : Ev (fun n => (some x).bind (f n)) r := h
theorem bnd {x : Option α} {a : α} {f : Nat → α → Option β} {r : β} (hx : x = some a) (h : Ev (fun n => f n a) r) : Ev (fun n => x.bind (f n)) r := Ev.bind (eqv hx) h
theorem ev_to {g : Nat → Option α} {r q : α} (h : Ev g r) (e : r = q) : Ev g q := e ▸ h
end
end EvKit

namespace ListKit
theorem set_at {α : Type} (p : List α) (x y : α) (q : List α) : (p ++ x :: q).set (p.length : Int).toNat y = p ++ y :: q := by
  rw [Int.toNat_natCast, List.set_append_right _ _ (Nat.le_refl _), Nat.sub_self, List.set_cons_zero]
theorem shift {α : Type} (p : List α) (y : α) (q : List α) : p ++ y :: q = (p ++ [y]) ++ q := by simp
theorem w64w (a b : Int) : wrap64 (wrap64 a + b) = wrap64 (a + b) := by unfold wrap64; omega
end ListKit

def neLogEntry (x y : S114) : Bool := !(x.f0 == y.f0) || (!(x.f1 == y.f1) || (!(x.f2 == y.f2) || (!(x.f3 == y.f3) || (!(x.f4 == y.f4) || (!(x.f5 == y.f5))))))
def sameLogEntry : List S114 → List S114 → Bool
  | x :: l, y :: m => if neLogEntry x y = true then false else sameLogEntry l m
  | _, _ => true
theorem rd_T114_drop (l : List S114) (i : Nat) (h : i < l.length) : l.drop i = rd_T114 l (i : Int) :: l.drop (i + 1) := by
  rw [List.drop_eq_getElem_cons h]
  simp [rd_T114, List.getD, List.getElem?_eq_getElem h]

/-! ### extendslog: a log and one that it goes on from -/
def extendsB (l m : List S114) : Bool := if (l.length : Int) < (m.length : Int) then false else sameLogEntry l m
theorem sameLogEntry_nil (l : List S114) : sameLogEntry l [] = true := by cases l <;> rfl
theorem spec_ExtendsLog.ev_l (l m : List S114) (hl : l.length ≤ 9223372036854775806) (hm : m.length ≤ l.length) : ∀ (d i : Nat), m.length - i = d → i ≤ m.length → Ev (fun k => spec_ExtendsLog.l0 k l m (i : Int)) (sameLogEntry (l.drop i) (m.drop i)) := by
  intro d
  induction d with
  | zero =>
    intro i hd hi
    refine Ev.step (fun k => by rw [spec_ExtendsLog.l0]) ?_
    refine EvKit.itf (by omega) (EvKit.ret ?_)
    rw [List.drop_of_length_le (show m.length ≤ i by omega), sameLogEntry_nil]
  | succ d ih =>
    intro i hd hi
    refine Ev.step (fun k => by rw [spec_ExtendsLog.l0]) ?_
    rw [rd_T114_drop l i (by omega), rd_T114_drop m i (by omega)]
    refine EvKit.itt (by omega) (EvKit.itt (by omega) (EvKit.itt (by omega) (EvKit.ite (fun h => ?_) (fun h => ?_))))
    · exact EvKit.ret (by rw [sameLogEntry, if_pos (show neLogEntry _ _ = true from h)])
    · rw [EvKit.w64 (n := (i : Int) + 1) (by omega) (by omega), sameLogEntry, if_neg (show ¬ neLogEntry _ _ = true from h)]
      exact ih (i + 1) (by omega) (by omega)
theorem spec_ExtendsLog.ev (l m : List S114) (hl : l.length ≤ 9223372036854775806) : Ev (fun k => spec_ExtendsLog.f k l m) (extendsB l m) := by
  unfold spec_ExtendsLog.f extendsB
  refine EvKit.ite (fun h => ?_) (fun h => ?_)
  · rw [if_pos h]; exact EvKit.ret rfl
  · rw [if_neg h]
    exact spec_ExtendsLog.ev_l l m hl (by omega) _ 0 rfl (by omega)
theorem impl_ExtendsLog.ev_l (l m : List S114) (hl : l.length ≤ 9223372036854775806) (hm : m.length ≤ l.length) : ∀ (d i : Nat), m.length - i = d → i ≤ m.length → Ev (fun k => impl_ExtendsLog.l0 k l m (m.length : Int) (i : Int)) (sameLogEntry (l.drop i) (m.drop i)) := by
  intro d
  induction d with
  | zero =>
    intro i hd hi
    refine Ev.step (fun k => by rw [impl_ExtendsLog.l0]) ?_
    refine EvKit.itf (by omega) (EvKit.ret ?_)
    rw [List.drop_of_length_le (show m.length ≤ i by omega), sameLogEntry_nil]
  | succ d ih =>
    intro i hd hi
    refine Ev.step (fun k => by rw [impl_ExtendsLog.l0]) ?_
    rw [rd_T114_drop l i (by omega), rd_T114_drop m i (by omega)]
    refine EvKit.itt (by omega) (EvKit.itt (by omega) (EvKit.itt (by omega) (EvKit.itt (by omega) (EvKit.ite (fun h => ?_) (fun h => ?_)))))
    · exact EvKit.ret (by rw [sameLogEntry, if_pos (show neLogEntry _ _ = true from h)])
    · rw [EvKit.w64 (n := (i : Int) + 1) (by omega) (by omega), sameLogEntry, if_neg (show ¬ neLogEntry _ _ = true from h)]
      exact ih (i + 1) (by omega) (by omega)
theorem impl_ExtendsLog.ev (l m : List S114) (hl : l.length ≤ 9223372036854775806) : Ev (fun k => impl_ExtendsLog.f k l m) (extendsB l m) := by
  unfold impl_ExtendsLog.f extendsB
  refine EvKit.ite (fun h => ?_) (fun h => ?_)
  · rw [if_pos h]; exact EvKit.ret rfl
  · rw [if_neg h]
    exact impl_ExtendsLog.ev_l l m hl (by omega) _ 0 rfl (by omega)

def eqLogsB (l m : List S114) : Bool := if (l.length : Int) = (m.length : Int) then extendsB l m else false
theorem spec_l22Same.ev (l m : List S114) (hl : l.length ≤ 9223372036854775806) : Ev (fun k => spec_l22Same.f k l m) (eqLogsB l m) := by
  unfold spec_l22Same.f eqLogsB
  refine EvKit.ite (fun h => ?_) (fun h => ?_)
  · rw [if_pos h]; exact Ev.bind (spec_ExtendsLog.ev l m hl) (EvKit.ret rfl)
  · rw [if_neg h]; exact EvKit.ret rfl
theorem impl_equalLogs.ev (l m : List S114) (hl : l.length ≤ 9223372036854775806) : Ev (fun k => impl_equalLogs.f k l m) (eqLogsB l m) := by
  unfold impl_equalLogs.f eqLogsB
  refine EvKit.ite (fun h => ?_) (fun h => ?_)
  · rw [if_pos h]; exact Ev.bind (impl_ExtendsLog.ev l m hl) (EvKit.ret rfl)
  · rw [if_neg h]; exact EvKit.ret rfl

def neEntry (x y : S154) : Bool := !(x.f0 == y.f0) || (!(x.f1 == y.f1) || (!(x.f2 == y.f2) || (!(x.f3 == y.f3))))
def sameEntry : List S154 → List S154 → Bool
  | x :: l, y :: m => if neEntry x y = true then false else sameEntry l m
  | _, _ => true
theorem rd_T154_drop (l : List S154) (i : Nat) (h : i < l.length) : l.drop i = rd_T154 l (i : Int) :: l.drop (i + 1) := by
  rw [List.drop_eq_getElem_cons h]
  simp [rd_T154, List.getD, List.getElem?_eq_getElem h]

/-! ### equalbundles -/
def eqBundlesB (l m : List S154) : Bool := if (l.length : Int) = (m.length : Int) then sameEntry l m else false
theorem spec_EqualBundles.ev_l (l m : List S154) (hl : l.length ≤ 9223372036854775806) (hm : l.length = m.length) : ∀ (d i : Nat), l.length - i = d → i ≤ l.length → Ev (fun k => spec_EqualBundles.l0 k (i : Int) l m) (sameEntry (l.drop i) (m.drop i)) := by
  intro d
  induction d with
  | zero =>
    intro i hd hi
    refine Ev.step (fun k => by rw [spec_EqualBundles.l0]) ?_
    refine EvKit.itf (by omega) (EvKit.ret ?_)
    rw [List.drop_of_length_le (show l.length ≤ i by omega)]; rfl
  | succ d ih =>
    intro i hd hi
    refine Ev.step (fun k => by rw [spec_EqualBundles.l0]) ?_
    rw [rd_T154_drop l i (by omega), rd_T154_drop m i (by omega)]
    refine EvKit.itt (by omega) (EvKit.itt (by omega) (EvKit.itt (by omega) (EvKit.ite (fun h => ?_) (fun h => ?_))))
    · exact EvKit.ret (by rw [sameEntry, if_pos (show neEntry _ _ = true from h)])
    · rw [EvKit.w64 (n := (i : Int) + 1) (by omega) (by omega), sameEntry, if_neg (show ¬ neEntry _ _ = true from h)]
      exact ih (i + 1) (by omega) (by omega)
theorem spec_EqualBundles.ev (l m : List S154) (hl : l.length ≤ 9223372036854775806) : Ev (fun k => spec_EqualBundles.f k l m) (eqBundlesB l m) := by
  unfold spec_EqualBundles.f eqBundlesB
  refine EvKit.ite (fun h => ?_) (fun h => ?_)
  · rw [if_pos h]; exact spec_EqualBundles.ev_l l m hl (by omega) _ 0 rfl (by omega)
  · rw [if_neg h]; exact EvKit.ret rfl
theorem impl_EqualBundles.ev_l (l m : List S154) (hl : l.length ≤ 9223372036854775806) (hm : l.length = m.length) : ∀ (d i : Nat), l.length - i = d → i ≤ l.length → Ev (fun k => impl_EqualBundles.l0 k (l.length : Int) (i : Int) l m) (sameEntry (l.drop i) (m.drop i)) := by
  intro d
  induction d with
  | zero =>
    intro i hd hi
    refine Ev.step (fun k => by rw [impl_EqualBundles.l0]) ?_
    refine EvKit.itf (by omega) (EvKit.ret ?_)
    rw [List.drop_of_length_le (show l.length ≤ i by omega)]; rfl
  | succ d ih =>
    intro i hd hi
    refine Ev.step (fun k => by rw [impl_EqualBundles.l0]) ?_
    rw [rd_T154_drop l i (by omega), rd_T154_drop m i (by omega)]
    refine EvKit.itt (by omega) (EvKit.itt (by omega) (EvKit.itt (by omega) (EvKit.itt (by omega) (EvKit.ite (fun h => ?_) (fun h => ?_)))))
    · exact EvKit.ret (by rw [sameEntry, if_pos (show neEntry _ _ = true from h)])
    · rw [EvKit.w64 (n := (i : Int) + 1) (by omega) (by omega), sameEntry, if_neg (show ¬ neEntry _ _ = true from h)]
      exact ih (i + 1) (by omega) (by omega)
theorem impl_EqualBundles.ev (l m : List S154) (hl : l.length ≤ 9223372036854775806) : Ev (fun k => impl_EqualBundles.f k l m) (eqBundlesB l m) := by
  unfold impl_EqualBundles.f eqBundlesB
  refine EvKit.ite (fun h => ?_) (fun h => ?_)
  · rw [if_pos h]; exact impl_EqualBundles.ev_l l m hl (by omega) _ 0 rfl (by omega)
  · rw [if_neg h]; exact EvKit.ret rfl

def eqDevicesB (a b c d : Int) (l : List S114) (e f g : Int) (m : List S154) (a' b' c' d' : Int) (l' : List S114) (e' f' g' : Int) (m' : List S154) : Bool :=
  if (a == a' && (b == b' && (c == c' && (d == d')))) = true then (if eqLogsB l l' = true then (if e = e' then (if f = f' then (if g = g' then eqBundlesB m m' else false) else false) else false) else false) else false
theorem spec_EqualDevices.ev (a b c d : Int) (l : List S114) (e f g : Int) (m : List S154) (a' b' c' d' : Int) (l' : List S114) (e' f' g' : Int) (m' : List S154) (hl : l.length ≤ 9223372036854775806) (hm : m.length ≤ 9223372036854775806) :
    Ev (fun k => spec_EqualDevices.f k a b c d l e f g m a' b' c' d' l' e' f' g' m') (eqDevicesB a b c d l e f g m a' b' c' d' l' e' f' g' m') := by
  unfold spec_EqualDevices.f eqDevicesB
  refine EvKit.ite (fun h => ?_) (fun h => ?_)
  · rw [if_pos h]
    refine Ev.bind (spec_l22Same.ev l l' hl) (EvKit.ite (fun h => ?_) (fun h => ?_))
    · rw [if_pos h]
      refine EvKit.ite (fun h => ?_) (fun h => ?_)
      · rw [if_pos h]
        refine EvKit.ite (fun h => ?_) (fun h => ?_)
        · rw [if_pos h]
          refine EvKit.ite (fun h => ?_) (fun h => ?_)
          · rw [if_pos h]; exact Ev.bind (spec_EqualBundles.ev m m' hm) (EvKit.ret rfl)
          · rw [if_neg h]; exact EvKit.ret rfl
        · rw [if_neg h]; exact EvKit.ret rfl
      · rw [if_neg h]; exact EvKit.ret rfl
    · rw [if_neg h]; exact EvKit.ret rfl
  · rw [if_neg h]; exact EvKit.ret rfl
theorem impl_EqualDevices.ev (a b c d : Int) (l : List S114) (e f g : Int) (m : List S154) (a' b' c' d' : Int) (l' : List S114) (e' f' g' : Int) (m' : List S154) (hl : l.length ≤ 9223372036854775806) (hm : m.length ≤ 9223372036854775806) :
    Ev (fun k => impl_EqualDevices.f k a b c d l e f g m a' b' c' d' l' e' f' g' m') (eqDevicesB a b c d l e f g m a' b' c' d' l' e' f' g' m') := by
  unfold impl_EqualDevices.f eqDevicesB
  refine EvKit.ite (fun h => ?_) (fun h => ?_)
  · rw [if_pos h]
    refine Ev.bind (impl_equalLogs.ev l l' hl) (EvKit.ite (fun h => ?_) (fun h => ?_))
    · rw [if_pos h]
      refine EvKit.ite (fun h => ?_) (fun h => ?_)
      · rw [if_pos h]
        refine EvKit.ite (fun h => ?_) (fun h => ?_)
        · rw [if_pos h]
          refine EvKit.ite (fun h => ?_) (fun h => ?_)
          · rw [if_pos h]; exact Ev.bind (impl_EqualBundles.ev m m' hm) (EvKit.ret rfl)
          · rw [if_neg h]; exact EvKit.ret rfl
        · rw [if_neg h]; exact EvKit.ret rfl
      · rw [if_neg h]; exact EvKit.ret rfl
    · rw [if_neg h]; exact EvKit.ret rfl
  · rw [if_neg h]; exact EvKit.ret rfl

theorem laws_szLogEntryS.eq (l : List S116) (v : Int) (h0 : 0 ≤ v) (h1 : v ≤ 1048576) (hl : l.length ≤ 9223372036854775807) : laws_szLogEntryS.f l v = some (if v < (l.length : Int) then -1 else v - (l.length : Int)) := by
  unfold laws_szLogEntryS.f
  rw [EvKit.w64 (by omega) (by omega)]
  by_cases h : v < (l.length : Int)
  · rw [if_pos (by omega), if_pos h]
  · rw [if_neg (by omega), if_neg h]

theorem laws_szEntryS.eq (l : List S189) (v : Int) (h0 : 0 ≤ v) (h1 : v ≤ 1048576) (hl : l.length ≤ 9223372036854775807) : laws_szEntryS.f l v = some (if v < (l.length : Int) then -1 else v - (l.length : Int)) := by
  unfold laws_szEntryS.f
  rw [EvKit.w64 (by omega) (by omega)]
  by_cases h : v < (l.length : Int)
  · rw [if_pos (by omega), if_pos h]
  · rw [if_neg (by omega), if_neg h]

theorem laws_szBundle.eq (l : List S189) (v : Int) (h0 : 0 ≤ v) (h1 : v ≤ 1048576) (hl : l.length ≤ 9223372036854775807) : laws_szBundle.f l v = some (if v < (l.length : Int) then -1 else v - (l.length : Int)) := by
  unfold laws_szBundle.f
  rw [laws_szEntryS.eq l v h0 h1 hl, Option.bind_some]
  by_cases h : v < (l.length : Int)
  · rw [if_pos h]; rfl
  · rw [if_neg h, if_neg (by omega)]
theorem laws_szDevice.eq (a b c d : Int) (l : List S116) (e f g : Int) (m : List S189) (v : Int) (h0 : 0 ≤ v) (h1 : v ≤ 1048576) (hl : l.length ≤ 9223372036854775807) (hm : m.length ≤ 9223372036854775807) : laws_szDevice.f a b c d l e f g m v = some (if v < (l.length : Int) + (m.length : Int) then -1 else v - (l.length : Int) - (m.length : Int)) := by
  unfold laws_szDevice.f
  rw [laws_szLogEntryS.eq l v h0 h1 hl, Option.bind_some]
  by_cases h : v < (l.length : Int)
  · rw [if_pos h, if_pos (by omega), if_pos (by omega)]
  · rw [if_neg h, if_neg (by omega), laws_szBundle.eq m _ (by omega) (by omega) hm, Option.bind_some]
    by_cases h2 : v - (l.length : Int) < (m.length : Int)
    · rw [if_pos h2, if_pos (by omega), if_pos (by omega)]
    · rw [if_neg h2, if_neg (by omega), if_neg (by omega)]

/-! ### toLogEntryS: the same list -/
def toLogEntryC (x : S116) : S114 := (⟨x.f0, x.f1, x.f2, x.f3, x.f4, x.f5⟩ : S114)
theorem rd_T116_at (p : List S116) (x : S116) (q : List S116) (i : Nat) (hi : i = p.length) : rd_T116 (p ++ x :: q) (i : Int) = x := by subst hi; simp [rd_T116]
theorem laws_toLogEntryS.ev_l : ∀ (q p : List S116) (i : Nat), i = p.length → p.length + q.length ≤ 4611686018427387904 →
    Ev (fun k => laws_toLogEntryS.l0 k (p ++ q) (p.map toLogEntryC ++ List.replicate q.length z114) (i : Int)) ((p ++ q).map toLogEntryC) := by
  intro q
  induction q with
  | nil =>
    intro p i hi h
    refine Ev.step (fun k => by rw [laws_toLogEntryS.l0]) ?_
    exact EvKit.itf (by simp; omega) (EvKit.ret (by simp))
  | cons x q ih =>
    intro p i hi h
    simp only [List.length_cons] at h
    refine Ev.step (fun k => by rw [laws_toLogEntryS.l0]) ?_
    refine EvKit.itt (by simp only [List.length_append, List.length_cons]; omega) (EvKit.itt (by omega) ?_)
    rw [rd_T116_at p x q i hi]
    simp only [laws_toLogEntry.f, Option.bind_some]
    refine EvKit.itt (by simp only [List.length_append, List.length_map, List.length_replicate, List.length_cons]; omega) ?_
    rw [EvKit.w64 (n := (i : Int) + 1) (by omega) (by omega)]
    have e : (p.map toLogEntryC ++ List.replicate (x :: q).length z114).set (i : Int).toNat (toLogEntryC x) = (p ++ [x]).map toLogEntryC ++ List.replicate q.length z114 := by
      rw [List.length_cons, List.replicate_succ]
      have h2 := ListKit.set_at (p.map toLogEntryC) z114 (toLogEntryC x) (List.replicate q.length z114)
      rw [List.length_map, ← hi] at h2
      rw [h2]
      simp
    have e2 : p ++ x :: q = (p ++ [x]) ++ q := by simp
    refine EvKit.ev_to (Ev.congr (fun k => ?_) (ih (p ++ [x]) (i + 1) (by simp; omega) (by simp only [List.length_append, List.length_cons, List.length_nil]; omega))) (by rw [e2])
    rw [← e, ← e2]
    rfl
theorem laws_toLogEntryS.ev (l : List S116) (hl : l.length ≤ 1048576) : Ev (fun k => laws_toLogEntryS.f k l) (l.map toLogEntryC) := by
  unfold laws_toLogEntryS.f
  exact EvKit.itt (by omega) (EvKit.itt (by omega) (laws_toLogEntryS.ev_l l [] 0 rfl (by simp; omega)))

/-! ### toEntryS: the same list -/
def toEntryC (x : S189) : S154 := (⟨x.f0, x.f1, x.f2, x.f3⟩ : S154)
theorem rd_T189_at (p : List S189) (x : S189) (q : List S189) (i : Nat) (hi : i = p.length) : rd_T189 (p ++ x :: q) (i : Int) = x := by subst hi; simp [rd_T189]
theorem laws_toEntryS.ev_l : ∀ (q p : List S189) (i : Nat), i = p.length → p.length + q.length ≤ 4611686018427387904 →
    Ev (fun k => laws_toEntryS.l0 k (p ++ q) (p.map toEntryC ++ List.replicate q.length z154) (i : Int)) ((p ++ q).map toEntryC) := by
  intro q
  induction q with
  | nil =>
    intro p i hi h
    refine Ev.step (fun k => by rw [laws_toEntryS.l0]) ?_
    exact EvKit.itf (by simp; omega) (EvKit.ret (by simp))
  | cons x q ih =>
    intro p i hi h
    simp only [List.length_cons] at h
    refine Ev.step (fun k => by rw [laws_toEntryS.l0]) ?_
    refine EvKit.itt (by simp only [List.length_append, List.length_cons]; omega) (EvKit.itt (by omega) ?_)
    rw [rd_T189_at p x q i hi]
    simp only [laws_toEntry.f, Option.bind_some]
    refine EvKit.itt (by simp only [List.length_append, List.length_map, List.length_replicate, List.length_cons]; omega) ?_
    rw [EvKit.w64 (n := (i : Int) + 1) (by omega) (by omega)]
    have e : (p.map toEntryC ++ List.replicate (x :: q).length z154).set (i : Int).toNat (toEntryC x) = (p ++ [x]).map toEntryC ++ List.replicate q.length z154 := by
      rw [List.length_cons, List.replicate_succ]
      have h2 := ListKit.set_at (p.map toEntryC) z154 (toEntryC x) (List.replicate q.length z154)
      rw [List.length_map, ← hi] at h2
      rw [h2]
      simp
    have e2 : p ++ x :: q = (p ++ [x]) ++ q := by simp
    refine EvKit.ev_to (Ev.congr (fun k => ?_) (ih (p ++ [x]) (i + 1) (by simp; omega) (by simp only [List.length_append, List.length_cons, List.length_nil]; omega))) (by rw [e2])
    rw [← e, ← e2]
    rfl
theorem laws_toEntryS.ev (l : List S189) (hl : l.length ≤ 1048576) : Ev (fun k => laws_toEntryS.f k l) (l.map toEntryC) := by
  unfold laws_toEntryS.f
  exact EvKit.itt (by omega) (EvKit.itt (by omega) (laws_toEntryS.ev_l l [] 0 rfl (by simp; omega)))

theorem laws_toBundle.ev (l : List S189) (hl : l.length ≤ 1048576) : Ev (fun k => laws_toBundle.f k l) (l.map toEntryC) := by
  unfold laws_toBundle.f
  exact Ev.bind (laws_toEntryS.ev l hl) (EvKit.ret rfl)
theorem laws_toDevice.ev (a b c d : Int) (l : List S116) (e f g : Int) (m : List S189) (hl : l.length ≤ 1048576) (hm : m.length ≤ 1048576) : Ev (fun k => laws_toDevice.f k a b c d l e f g m) (a, b, c, d, l.map toLogEntryC, e, f, g, m.map toEntryC) := by
  unfold laws_toDevice.f laws_toKeyStore.f
  exact EvKit.now (Ev.bind (laws_toLogEntryS.ev l hl) (Ev.bind (laws_toBundle.ev m hm) (EvKit.ret rfl)))

theorem laws_eqLogEntry.refl (a0 a1 a2 a3 a4 a5 : Int) : laws_eqLogEntry.f a0 a1 a2 a3 a4 a5 a0 a1 a2 a3 a4 a5 = some true := by simp [laws_eqLogEntry.f]

/-! ### eqLogEntryS: a list and itself -/
theorem laws_eqLogEntryS.ev_l (l : List S114) (hl : l.length ≤ 9223372036854775806) : ∀ (d i : Nat), l.length - i = d → i ≤ l.length → Ev (fun k => laws_eqLogEntryS.l0 k l l (i : Int)) true := by
  intro d
  induction d with
  | zero =>
    intro i hd hi
    refine Ev.step (fun k => by rw [laws_eqLogEntryS.l0]) ?_
    exact EvKit.itf (by omega) (EvKit.ret rfl)
  | succ d ih =>
    intro i hd hi
    refine Ev.step (fun k => by rw [laws_eqLogEntryS.l0]) ?_
    refine EvKit.itt (by omega) (EvKit.itt (by omega) (EvKit.itt (by omega) (EvKit.bnd (laws_eqLogEntry.refl ..) (EvKit.itt rfl ?_))))
    rw [EvKit.w64 (n := (i : Int) + 1) (by omega) (by omega)]
    exact ih (i + 1) (by omega) (by omega)
theorem laws_eqLogEntryS.ev (l : List S114) (hl : l.length ≤ 9223372036854775806) : Ev (fun k => laws_eqLogEntryS.f k l l) true := by
  unfold laws_eqLogEntryS.f
  exact EvKit.itt rfl (laws_eqLogEntryS.ev_l l hl _ 0 rfl (by omega))

theorem laws_eqEntry.refl (a0 : Int) (a1 : Int) (a2 : Int) (a3 : Bool) : laws_eqEntry.f a0 a1 a2 a3 a0 a1 a2 a3 = some true := by simp [laws_eqEntry.f]

/-! ### eqEntryS: a list and itself -/
theorem laws_eqEntryS.ev_l (l : List S154) (hl : l.length ≤ 9223372036854775806) : ∀ (d i : Nat), l.length - i = d → i ≤ l.length → Ev (fun k => laws_eqEntryS.l0 k l l (i : Int)) true := by
  intro d
  induction d with
  | zero =>
    intro i hd hi
    refine Ev.step (fun k => by rw [laws_eqEntryS.l0]) ?_
    exact EvKit.itf (by omega) (EvKit.ret rfl)
  | succ d ih =>
    intro i hd hi
    refine Ev.step (fun k => by rw [laws_eqEntryS.l0]) ?_
    refine EvKit.itt (by omega) (EvKit.itt (by omega) (EvKit.itt (by omega) (EvKit.bnd (laws_eqEntry.refl ..) (EvKit.itt rfl ?_))))
    rw [EvKit.w64 (n := (i : Int) + 1) (by omega) (by omega)]
    exact ih (i + 1) (by omega) (by omega)
theorem laws_eqEntryS.ev (l : List S154) (hl : l.length ≤ 9223372036854775806) : Ev (fun k => laws_eqEntryS.f k l l) true := by
  unfold laws_eqEntryS.f
  exact EvKit.itt rfl (laws_eqEntryS.ev_l l hl _ 0 rfl (by omega))

theorem laws_eqKeyStore.refl (a b c d : Int) : laws_eqKeyStore.f a b c d a b c d = some true := by simp [laws_eqKeyStore.f]
theorem laws_eqBundle.ev (l : List S154) (hl : l.length ≤ 9223372036854775806) : Ev (fun k => laws_eqBundle.f k l l) true := by
  unfold laws_eqBundle.f
  exact Ev.bind (laws_eqEntryS.ev l hl) (EvKit.itt rfl (EvKit.ret rfl))
theorem laws_eqDevice.ev (a b c d : Int) (l : List S114) (e f g : Int) (m : List S154) (hl : l.length ≤ 9223372036854775806) (hm : m.length ≤ 9223372036854775806) : Ev (fun k => laws_eqDevice.f k a b c d l e f g m a b c d l e f g m) true := by
  unfold laws_eqDevice.f
  exact EvKit.bnd (laws_eqKeyStore.refl ..) (EvKit.itt rfl (Ev.bind (laws_eqLogEntryS.ev l hl) (EvKit.itt rfl (EvKit.itt rfl (EvKit.itt rfl (EvKit.itt rfl (Ev.bind (laws_eqBundle.ev m hm) (EvKit.itt rfl (EvKit.ret rfl)))))))))

end Go.Proofs.Ytkmndimmglghoaa.QFnExactEqualDevices
