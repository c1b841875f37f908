/- What the printed functions of FnExactOpenEpochBoxes come to, in plain terms; no condition beyond those in each theorem. -/
import Derived.Test.YtkmndimmglghoaaRFnExactOpenEpochBoxes
set_option linter.unusedVariables false
set_option linter.unusedSimpArgs false
namespace Go.Proofs.Ytkmndimmglghoaa.QFnExactOpenEpochBoxes
open Go.RowKit Go.Proofs.Ytkmndimmglghoaa.PFnExactOpenEpochBoxes Go.Proofs.YtkmndimmglghoaaW.PrintWords Go.Proofs.YtkmndimmglghoaaW.PrintLast Go.Proofs.Ytkmndimmglghoaa.RFnExactOpenEpochBoxes
/-! ### evkit: steps for printed functions -/
namespace EvKit
theorem w64 {n : Int} (h0 : -9223372036854775808 ≤ n) (h1 : n ≤ 9223372036854775807) : wrap64 n = n := by unfold wrap64; omega
section
variable {α β : Type}
theorem ret {x r : α} (h : x = r) : Ev (fun _ => some x) r := ⟨0, fun _ _ => by rw [h]⟩
theorem eqv {x : Option α} {r : α} (h : x = some r) : Ev (fun _ => x) r := ⟨0, fun _ _ => h⟩
theorem itt {c : Prop} [Decidable c] {a b : Nat → Option α} {r : α} (hc : c) (h : Ev a r) : Ev (fun k => if c then a k else b k) r := Ev.congr (fun _ => if_pos hc) h
theorem itf {c : Prop} [Decidable c] {a b : Nat → Option α} {r : α} (hc : ¬ c) (h : Ev b r) : Ev (fun k => if c then a k else b k) r := Ev.congr (fun _ => if_neg hc) h
theorem ite {c : Prop} [Decidable c] {a b : Nat → Option α} {r : α} (h : c → Ev a r) (h' : ¬ c → Ev b r) : Ev (fun k => if c then a k else b k) r := by
  by_cases hc : c
  · exact itt hc (h hc)
  · exact itf hc (h' hc)
theorem now {x : α} {f : Nat → α → Option β} {r : β} (h : Ev (fun n => f n x) r) : Ev (fun n => (some x).bind (f n)) r := h
theorem bnd {x : Option α} {a : α} {f : Nat → α → Option β} {r : β} (hx : x = some a) (h : Ev (fun n => f n a) r) : Ev (fun n => x.bind (f n)) r := Ev.bind (eqv hx) h
theorem ev_to {g : Nat → Option α} {r q : α} (h : Ev g r) (e : r = q) : Ev g q := e ▸ h
end
end EvKit

/-! ### arith: remainders as the program takes them -/
def modI (p q : Int) : Int := if 1 ≤ q ∧ q ≤ 1000000000000 then p % q else 0
theorem modI_pos {q : Int} (p : Int) (h : 1 ≤ q) (h' : q ≤ 1000000000000) : modI p q = p % q := if_pos ⟨h, h'⟩
theorem tmod_lo (p q : Int) (h : 1 ≤ q) : -q < Int.tmod p q := Int.lt_tmod_of_pos p (by omega)
theorem tmod_hi (p q : Int) (h : 1 ≤ q) : Int.tmod p q < q := Int.tmod_lt_of_pos p (by omega)
theorem tmod_emod (p q : Int) : Int.tmod p q % q = p % q := by
  rw [Int.tmod_def, Int.sub_mul_emod_self_left]
theorem tmod_neg_case (p q : Int) (h : 1 ≤ q) (hn : Int.tmod p q < 0) : Int.tmod p q + q = p % q := by
  have h1 := tmod_lo p q h
  rw [← tmod_emod p q, ← Int.add_emod_right, Int.emod_eq_of_lt (by omega) (by omega)]
theorem tmod_pos_case (p q : Int) (h : 1 ≤ q) (hn : 0 ≤ Int.tmod p q) : Int.tmod p q = p % q := by
  have h1 := tmod_hi p q h
  rw [← tmod_emod p q, Int.emod_eq_of_lt hn h1]
theorem tmod_twice (p q : Int) (h : 1 ≤ q) : Int.tmod (Int.tmod p q + q) q = p % q := by
  have h1 := tmod_lo p q h
  rw [Int.tmod_eq_emod_of_nonneg (by omega), Int.add_emod_right, tmod_emod]
theorem tmod_nn {p : Int} (q : Int) (h : 0 ≤ p) : Int.tmod p q = p % q := Int.tmod_eq_emod_of_nonneg h

/-! ### hashc: the hash, as a function of a list -/
def hashStep (h v : Int) : Int := (h * 1000003 + v % 2147483647 + 13) % 2147483647
def hashL (l : List Int) : Int := l.foldl hashStep 11
def keyed (s : Int) (l : List Int) : Int := hashL (s :: (l ++ [s]))
theorem hashStep_bd (h v : Int) : 0 ≤ hashStep h v ∧ hashStep h v < 2147483647 := by unfold hashStep; omega
theorem foldl_bd : ∀ (l : List Int) (h : Int), 0 ≤ h → h < 2147483647 → 0 ≤ l.foldl hashStep h ∧ l.foldl hashStep h < 2147483647
  | [], _, h0, h1 => ⟨h0, h1⟩
  | v :: l, h, _, _ => foldl_bd l _ (hashStep_bd h v).1 (hashStep_bd h v).2
theorem hashL_bd (l : List Int) : 0 ≤ hashL l ∧ hashL l < 2147483647 := foldl_bd l 11 (by omega) (by omega)
theorem keyed_bd (s : Int) (l : List Int) : 0 ≤ keyed s l ∧ keyed s l < 2147483647 := hashL_bd _
theorem hashStep_w (h v : Int) (h0 : 0 ≤ h) (h1 : h < 2147483647) : Int.tmod (wrap64 (wrap64 (wrap64 (h * 1000003) + v % 2147483647) + 13)) 2147483647 = hashStep h v := by
  rw [EvKit.w64 (n := h * 1000003) (by omega) (by omega), EvKit.w64 (n := h * 1000003 + v % 2147483647) (by omega) (by omega), EvKit.w64 (by omega) (by omega), Int.tmod_eq_emod_of_nonneg (by omega)]
  rfl
theorem rd_drop (l : List Int) (i : Nat) (h : i < l.length) : l.drop i = rd l (i : Int) :: l.drop (i + 1) := by
  rw [List.drop_eq_getElem_cons h]
  simp [rd, List.getD, List.getElem?_eq_getElem h]

theorem spec_l1In.eq (x a b : Int) : spec_l1In.f x a b = some (decide (a ≤ x ∧ x ≤ b)) := by
  unfold spec_l1In.f
  by_cases h : x ≥ a
  · rw [if_pos h]; congr 1; exact decide_eq_decide.mpr ⟨fun z => ⟨h, z⟩, fun z => z.2⟩
  · rw [if_neg h]; congr 1; exact (decide_eq_false (by omega)).symm

theorem spec_Mod.eq (p q : Int) : spec_Mod.f p q = some (modI p q) := by
  unfold spec_Mod.f modI
  rw [spec_l1In.eq]
  simp only [Option.bind_some, decide_eq_true_eq]
  by_cases h : 1 ≤ q ∧ q ≤ 1000000000000
  · have h1 := tmod_lo p q h.1
    have h2 := tmod_hi p q h.1
    rw [if_pos h, if_pos h, if_neg (by omega), EvKit.w64 (by omega) (by omega), tmod_twice p q h.1]
  · rw [if_neg h, if_neg h]

/-! ### spec.Mod, spec.Hash, spec.KeyedHash -/
theorem spec_Hash.ev_l (l : List Int) (hl : l.length ≤ 9223372036854775806) : ∀ (d i : Nat) (h : Int), l.length - i = d → i ≤ l.length → 0 ≤ h → h < 2147483647 →
    Ev (fun k => spec_Hash.l0 k l h (i : Int)) ((l.drop i).foldl hashStep h) := by
  intro d
  induction d with
  | zero =>
    intro i h hd hi h0 h1
    refine Ev.step (fun k => by rw [spec_Hash.l0]) ?_
    refine EvKit.itf (by omega) (EvKit.ret ?_)
    rw [List.drop_of_length_le (by omega)]
    rfl
  | succ d ih =>
    intro i h hd hi h0 h1
    refine Ev.step (fun k => by rw [spec_Hash.l0]) ?_
    refine EvKit.itt (by omega) (EvKit.itt (by omega) (EvKit.bnd (spec_Mod.eq _ _) ?_))
    rw [modI_pos _ (by omega) (by omega), hashStep_w _ _ h0 h1, EvKit.w64 (n := (i : Int) + 1) (by omega) (by omega), rd_drop l i (by omega)]
    exact ih (i + 1) _ (by omega) (by omega) (hashStep_bd _ _).1 (hashStep_bd _ _).2
theorem spec_Hash.ev (l : List Int) (hl : l.length ≤ 9223372036854775806) : Ev (fun k => spec_Hash.f k l) (hashL l) :=
  spec_Hash.ev_l l hl _ 0 11 rfl (by omega) (by omega) (by omega)

theorem spec_KeyedHash.ev (s : Int) (l : List Int) (hl : l.length ≤ 17592186044410) : Ev (fun k => spec_KeyedHash.f k s l) (keyed s l) := by
  unfold spec_KeyedHash.f
  refine EvKit.now (EvKit.itt (by simp only [List.length_cons, List.length_nil]; omega) (EvKit.now (EvKit.itt (by simp only [List.length_cons, List.length_nil, List.length_append]; omega) (Ev.bind (spec_Hash.ev _ (by simp only [List.length_cons, List.length_nil, List.length_append]; omega)) (EvKit.ret ?_)))))
  simp [keyed]

theorem impl_Mod.ev (p q : Int) : Ev (fun k => impl_Mod.f k p q) (modI p q) := by
  unfold impl_Mod.f modI
  by_cases h : 1 ≤ q ∧ q ≤ 1000000000000
  · have h1 := tmod_lo p q h.1
    have h2 := tmod_hi p q h.1
    rw [if_pos h]
    refine EvKit.itf (by omega) (Ev.step (fun k => by rw [impl_Mod.j0]) (EvKit.itf (by simp; omega) (EvKit.itf (by omega) (EvKit.ite (fun hn => EvKit.ret ?_) (fun hn => EvKit.ret ?_)))))
    · rw [EvKit.w64 (by omega) (by omega), tmod_neg_case p q h.1 hn]
    · rw [tmod_pos_case p q h.1 (by omega)]
  · rw [if_neg h]
    refine EvKit.ite (fun hq => ?_) (fun hq => ?_)
    · refine Ev.step (fun k => by rw [impl_Mod.j0]) ?_
      exact EvKit.itt rfl (EvKit.ret rfl)
    · refine Ev.step (fun k => by rw [impl_Mod.j0]) ?_
      exact EvKit.itt (by simp; omega) (EvKit.ret rfl)

/-! ### impl.Mod, impl.Hash -/
theorem impl_Hash.ev_l (l : List Int) (hl : l.length ≤ 9223372036854775806) : ∀ (d i : Nat) (h : Int), l.length - i = d → i ≤ l.length → 0 ≤ h → h < 2147483647 →
    Ev (fun k => impl_Hash.l0 k h l (l.length : Int) (i : Int)) ((l.drop i).foldl hashStep h) := by
  intro d
  induction d with
  | zero =>
    intro i h hd hi h0 h1
    refine Ev.step (fun k => by rw [impl_Hash.l0]) ?_
    refine EvKit.itf (by omega) (EvKit.ret ?_)
    rw [List.drop_of_length_le (by omega)]
    rfl
  | succ d ih =>
    intro i h hd hi h0 h1
    refine Ev.step (fun k => by rw [impl_Hash.l0]) ?_
    refine EvKit.itt (by omega) (EvKit.itt (by omega) (EvKit.itt (by omega) (Ev.bind (impl_Mod.ev _ _) ?_)))
    rw [modI_pos _ (by omega) (by omega), hashStep_w _ _ h0 h1, EvKit.w64 (n := (i : Int) + 1) (by omega) (by omega), rd_drop l i (by omega)]
    exact ih (i + 1) _ (by omega) (by omega) (hashStep_bd _ _).1 (hashStep_bd _ _).2
theorem impl_Hash.ev (l : List Int) (hl : l.length ≤ 9223372036854775806) : Ev (fun k => impl_Hash.f k l) (hashL l) :=
  impl_Hash.ev_l l hl _ 0 11 rfl (by omega) (by omega) (by omega)

/-! ### impl.joined -/
theorem rdL_drop (L : List (List Int)) (i : Nat) (h : i < L.length) : L.drop i = rd_L5 L (i : Int) :: L.drop (i + 1) := by
  rw [List.drop_eq_getElem_cons h]
  simp [rd_L5, List.getD, List.getElem?_eq_getElem h]
def lenSum : List (List Int) → Nat
  | [] => 0
  | l :: L => l.length + lenSum L
theorem impl_joined.ev_l (L : List (List Int)) (hL : L.length ≤ 9223372036854775806) : ∀ (d i : Nat) (acc : List Int), L.length - i = d → i ≤ L.length → acc.length + lenSum (L.drop i) < 17592186044416 →
    Ev (fun k => impl_joined.l0 k acc L (L.length : Int) (i : Int)) (acc ++ (L.drop i).flatten) := by
  intro d
  induction d with
  | zero =>
    intro i acc hd hi hs
    refine Ev.step (fun k => by rw [impl_joined.l0]) ?_
    refine EvKit.itf (by omega) (EvKit.ret ?_)
    rw [List.drop_of_length_le (by omega)]
    simp
  | succ d ih =>
    intro i acc hd hi hs
    have hr := rdL_drop L i (by omega)
    rw [hr] at hs ⊢
    simp only [lenSum] at hs
    refine Ev.step (fun k => by rw [impl_joined.l0]) ?_
    refine EvKit.itt (by omega) (EvKit.itt (by omega) (EvKit.itt (by omega) (EvKit.itt (by omega) ?_)))
    rw [EvKit.w64 (n := (i : Int) + 1) (by omega) (by omega)]
    refine EvKit.ev_to (ih (i + 1) _ (by omega) (by omega) (by simp only [List.length_append]; omega)) ?_
    simp
theorem impl_joined.ev (a : List Int) (L : List (List Int)) (hL : L.length ≤ 9223372036854775806) (hs : a.length + lenSum L < 17592186044416) : Ev (fun k => impl_joined.f k a L) (a ++ L.flatten) := by
  unfold impl_joined.f
  refine EvKit.now (EvKit.itt (by simp only [List.length_nil]; omega) (EvKit.ev_to (impl_joined.ev_l L hL _ 0 _ rfl (by omega) (by simpa using hs)) ?_))
  simp

theorem impl_KeyedHash.ev (s : Int) (l : List Int) (hl : l.length ≤ 17592186044410) : Ev (fun k => impl_KeyedHash.f k s l) (keyed s l) := by
  unfold impl_KeyedHash.f
  refine Ev.bind (impl_joined.ev [s] [l, [s]] (by simp) (by simp only [lenSum, List.length_cons, List.length_nil]; omega)) (Ev.bind (impl_Hash.ev _ (by simp; omega)) (EvKit.ret ?_))
  simp [keyed]

def deriveK (s : Int) (l : List Int) : Int := if keyed s (151 :: l) = 0 then 1 else keyed s (151 :: l)
theorem deriveK_bd (s : Int) (l : List Int) : 1 ≤ deriveK s l ∧ deriveK s l < 2147483647 := by
  have := keyed_bd s (151 :: l)
  unfold deriveK
  split <;> omega
theorem spec_Max.eq (a b : Int) : spec_Max.f a b = some (max a b) := by unfold spec_Max.f; split <;> congr 1 <;> omega
theorem spec_DeriveKey.ev (s : Int) (l : List Int) (hl : l.length ≤ 17592186044400) : Ev (fun k => spec_DeriveKey.f k s l) (deriveK s l) := by
  unfold spec_DeriveKey.f
  refine EvKit.now (EvKit.itt (by simp only [List.length_cons, List.length_nil]; omega) (Ev.bind (spec_KeyedHash.ev _ _ (by simp; omega)) (EvKit.bnd (spec_Max.eq _ _) (EvKit.ret ?_))))
  have h := keyed_bd s (151 :: l)
  show max 1 (keyed s (151 :: l)) = deriveK s l
  unfold deriveK
  split <;> omega
theorem impl_orOne.eq (a : Int) : impl_orOne.f a = some (if a = 0 then 1 else a) := by unfold impl_orOne.f; split <;> rfl
theorem impl_DeriveKey.ev (s : Int) (l : List Int) (hl : l.length ≤ 17592186044400) : Ev (fun k => impl_DeriveKey.f k s l) (deriveK s l) := by
  unfold impl_DeriveKey.f
  refine Ev.bind (impl_joined.ev [151] [l] (by simp) (by simp only [lenSum, List.length_cons, List.length_nil]; omega)) (Ev.bind (impl_KeyedHash.ev _ _ (by simp; omega)) (EvKit.bnd (impl_orOne.eq _) (EvKit.ret ?_)))
  simp [deriveK]

theorem impl_InRange.eq (x a b : Int) : impl_InRange.f x a b = some (decide (a ≤ x ∧ x ≤ b)) := by
  unfold impl_InRange.f
  by_cases h : a ≤ x
  · rw [if_pos h]; simp [h]
  · rw [if_neg h]; simp [h]

namespace ListKit
theorem set_at {α : Type} (p : List α) (x y : α) (q : List α) : (p ++ x :: q).set (p.length : Int).toNat y = p ++ y :: q := by
  rw [Int.toNat_natCast, List.set_append_right _ _ (Nat.le_refl _), Nat.sub_self, List.set_cons_zero]
theorem shift {α : Type} (p : List α) (y : α) (q : List α) : p ++ y :: q = (p ++ [y]) ++ q := by simp
theorem w64w (a b : Int) : wrap64 (wrap64 a + b) = wrap64 (a + b) := by unfold wrap64; omega
end ListKit

theorem rd_at_ (p : List Int) (x : Int) (q : List Int) (i : Nat) (hi : i = p.length) : rd (p ++ x :: q) (i : Int) = x := by subst hi; simp [rd]

/-! ### lists of bytes: toByteS, eqByteS -/
theorem laws_toByteS.ev_l : ∀ (q p : List Int) (i : Nat), i = p.length → p.length + q.length ≤ 4611686018427387904 →
    Ev (fun k => laws_toByteS.l0 k (p ++ q) (p ++ List.replicate q.length 0) (i : Int)) (p ++ q) := by
  intro q
  induction q with
  | nil =>
    intro p i hi h
    refine Ev.step (fun k => by rw [laws_toByteS.l0]) ?_
    exact EvKit.itf (by simp; omega) (EvKit.ret (by simp))
  | cons x q ih =>
    intro p i hi h
    simp only [List.length_cons] at h
    refine Ev.step (fun k => by rw [laws_toByteS.l0]) ?_
    refine EvKit.itt (by simp only [List.length_append, List.length_cons]; omega) (EvKit.itt (by omega) ?_)
    rw [rd_at_ p x q i hi]
    refine EvKit.itt (by simp only [List.length_append, List.length_replicate, List.length_cons]; omega) ?_
    rw [EvKit.w64 (n := (i : Int) + 1) (by omega) (by omega)]
    have e : (p ++ List.replicate (x :: q).length 0).set (i : Int).toNat x = (p ++ [x]) ++ List.replicate q.length 0 := by
      rw [List.length_cons, List.replicate_succ]
      have h2 := ListKit.set_at p 0 x (List.replicate q.length 0)
      rw [← hi] at h2
      rw [h2]
      simp
    have e2 : p ++ x :: q = (p ++ [x]) ++ q := by simp
    refine EvKit.ev_to (Ev.congr (fun k => ?_) (ih (p ++ [x]) (i + 1) (by simp; omega) (by simp only [List.length_append, List.length_cons, List.length_nil]; omega))) (by rw [e2])
    rw [← e, ← e2]
    rfl
theorem laws_toByteS.ev (l : List Int) (hl : l.length ≤ 1048576) : Ev (fun k => laws_toByteS.f k l) l := by
  unfold laws_toByteS.f
  exact EvKit.itt (by omega) (EvKit.itt (by omega) (laws_toByteS.ev_l l [] 0 rfl (by simp; omega)))
theorem laws_eqByteS.ev_l (l : List Int) (hl : l.length ≤ 9223372036854775806) : ∀ (d i : Nat), l.length - i = d → i ≤ l.length → Ev (fun k => laws_eqByteS.l0 k l l (i : Int)) true := by
  intro d
  induction d with
  | zero =>
    intro i hd hi
    refine Ev.step (fun k => by rw [laws_eqByteS.l0]) ?_
    exact EvKit.itf (by omega) (EvKit.ret rfl)
  | succ d ih =>
    intro i hd hi
    refine Ev.step (fun k => by rw [laws_eqByteS.l0]) ?_
    refine EvKit.itt (by omega) (EvKit.itt (by omega) (EvKit.itt (by omega) (EvKit.itt rfl ?_)))
    rw [EvKit.w64 (n := (i : Int) + 1) (by omega) (by omega)]
    exact ih (i + 1) (by omega) (by omega)
theorem laws_eqByteS.ev (l : List Int) (hl : l.length ≤ 9223372036854775806) : Ev (fun k => laws_eqByteS.f k l l) true := by
  unfold laws_eqByteS.f
  exact EvKit.itt rfl (laws_eqByteS.ev_l l hl _ 0 rfl (by omega))
theorem laws_szByteS.eq (l : List Int) (v : Int) (h0 : 0 ≤ v) (h1 : v ≤ 1048576) (hl : l.length ≤ 9223372036854775807) : laws_szByteS.f l v = some (if v < (l.length : Int) then -1 else v - (l.length : Int)) := by
  unfold laws_szByteS.f
  rw [EvKit.w64 (by omega) (by omega)]
  by_cases h : v < (l.length : Int)
  · rw [if_pos (by omega), if_pos h]
  · rw [if_neg (by omega), if_neg h]

/-! ### lists of boxes -/
theorem laws_szBox.eq (a b : Int) (l : List Int) (c v : Int) (h0 : 0 ≤ v) (h1 : v ≤ 1048576) (hl : l.length ≤ 9223372036854775807) : laws_szBox.f a b l c v = some (if v < (l.length : Int) then -1 else v - (l.length : Int)) := by
  unfold laws_szBox.f
  rw [laws_szByteS.eq l v h0 h1 hl]
  simp only [Option.bind_some]
  by_cases h : v < (l.length : Int)
  · rw [if_pos h]; rfl
  · rw [if_neg h, if_neg (by omega)]
theorem laws_toBox.ev (a b : Int) (l : List Int) (c : Int) (hl : l.length ≤ 1048576) : Ev (fun k => laws_toBox.f k a b l c) (a, b, l, c) := by
  unfold laws_toBox.f
  exact Ev.bind (laws_toByteS.ev l hl) (EvKit.ret rfl)
theorem laws_eqBox.ev (a b : Int) (l : List Int) (c : Int) (hl : l.length ≤ 9223372036854775806) : Ev (fun k => laws_eqBox.f k a b l c a b l c) true := by
  unfold laws_eqBox.f
  exact EvKit.itt rfl (EvKit.itt rfl (Ev.bind (laws_eqByteS.ev l hl) (EvKit.itt rfl (EvKit.itt rfl (EvKit.ret rfl)))))
def toBoxC (x : S159) : S161 := ⟨x.f0, x.f1, x.f2, x.f3⟩
def szBoxes : List S159 → Nat
  | [] => 0
  | x :: l => x.f2.length + szBoxes l
theorem szBoxes_mem {x : S159} : ∀ {l : List S159}, x ∈ l → x.f2.length ≤ szBoxes l
  | y :: l, h => by
    rcases List.mem_cons.1 h with rfl | h
    · simp [szBoxes]
    · have := szBoxes_mem h
      simp only [szBoxes]; omega
theorem rd_T159_drop (l : List S159) (i : Nat) (h : i < l.length) : l.drop i = rd_T159 l (i : Int) :: l.drop (i + 1) := by
  rw [List.drop_eq_getElem_cons h]
  simp [rd_T159, List.getD, List.getElem?_eq_getElem h]
theorem laws_szBoxS.ev_l (l : List S159) (hl : l.length ≤ 9223372036854775806) (he : ∀ x ∈ l, x.f2.length ≤ 9223372036854775807) : ∀ (d i : Nat) (v : Int), l.length - i = d → i ≤ l.length → 0 ≤ v → v ≤ 1048576 →
    ∃ r, Ev (fun k => laws_szBoxS.l0 k l v (i : Int)) r ∧ (0 ≤ r → r = v - (szBoxes (l.drop i) : Int)) ∧ r ≤ 1048576 := by
  intro d
  induction d with
  | zero =>
    intro i v hd hi h0 h1
    refine ⟨v, ?_, fun _ => ?_, h1⟩
    · refine Ev.step (fun k => by rw [laws_szBoxS.l0]) ?_
      exact EvKit.itf (by omega) (EvKit.ret rfl)
    · rw [List.drop_of_length_le (by omega)]; simp [szBoxes]
  | succ d ih =>
    intro i v hd hi h0 h1
    have hr := rd_T159_drop l i (by omega)
    have hm : rd_T159 l (i : Int) ∈ l := List.drop_subset i l (by rw [hr]; exact List.mem_cons_self)
    have hb := he _ hm
    by_cases h : v < ((rd_T159 l (i : Int)).f2.length : Int)
    · refine ⟨-1, ?_, fun h => by omega, by omega⟩
      refine Ev.step (fun k => by rw [laws_szBoxS.l0]) ?_
      refine EvKit.itt (by omega) (EvKit.itt (by omega) (EvKit.bnd (laws_szBox.eq _ _ _ _ _ h0 h1 hb) ?_))
      rw [if_pos h]
      exact EvKit.itt (by omega) (EvKit.ret rfl)
    · obtain ⟨r, h2, h3, h4⟩ := ih (i + 1) (v - ((rd_T159 l (i : Int)).f2.length : Int)) (by omega) (by omega) (by omega) (by omega)
      refine ⟨r, ?_, fun hr0 => ?_, h4⟩
      · refine Ev.step (fun k => by rw [laws_szBoxS.l0]) ?_
        refine EvKit.itt (by omega) (EvKit.itt (by omega) (EvKit.bnd (laws_szBox.eq _ _ _ _ _ h0 h1 hb) ?_))
        rw [if_neg h]
        refine EvKit.itf (by omega) ?_
        rw [EvKit.w64 (n := (i : Int) + 1) (by omega) (by omega)]
        exact h2
      · rw [h3 hr0, hr]
        simp only [szBoxes]
        omega
theorem laws_szBoxS.ev (l : List S159) (v : Int) (hl : l.length ≤ 9223372036854775807) (he : ∀ x ∈ l, x.f2.length ≤ 9223372036854775807) (h0 : 0 ≤ v) (h1 : v ≤ 1048576) :
    ∃ r, Ev (fun k => laws_szBoxS.f k l v) r ∧ (0 ≤ r → r = v - (l.length : Int) - (szBoxes l : Int)) ∧ r ≤ 1048576 := by
  unfold laws_szBoxS.f
  rw [EvKit.w64 (by omega) (by omega)]
  by_cases h : v - (l.length : Int) < 0
  · exact ⟨-1, EvKit.itt h (EvKit.ret rfl), fun h => by omega, by omega⟩
  · obtain ⟨r, h2, h3, h4⟩ := laws_szBoxS.ev_l l (by omega) he _ 0 (v - (l.length : Int)) rfl (by omega) (by omega) (by omega)
    exact ⟨r, EvKit.itf h h2, fun h => by rw [h3 h]; simp, h4⟩
theorem rd_T159_at (p : List S159) (x : S159) (q : List S159) (i : Nat) (hi : i = p.length) : rd_T159 (p ++ x :: q) (i : Int) = x := by subst hi; simp [rd_T159]
theorem laws_toBoxS.ev_l : ∀ (q p : List S159) (i : Nat), i = p.length → p.length + q.length ≤ 4611686018427387904 → (∀ x ∈ q, x.f2.length ≤ 1048576) →
    Ev (fun k => laws_toBoxS.l0 k (p ++ q) (p.map toBoxC ++ List.replicate q.length z161) (i : Int)) ((p ++ q).map toBoxC) := by
  intro q
  induction q with
  | nil =>
    intro p i hi h he
    refine Ev.step (fun k => by rw [laws_toBoxS.l0]) ?_
    exact EvKit.itf (by simp; omega) (EvKit.ret (by simp))
  | cons x q ih =>
    intro p i hi h he
    simp only [List.length_cons] at h
    refine Ev.step (fun k => by rw [laws_toBoxS.l0]) ?_
    refine EvKit.itt (by simp only [List.length_append, List.length_cons]; omega) (EvKit.itt (by omega) ?_)
    rw [rd_T159_at p x q i hi]
    refine Ev.bind (laws_toBox.ev _ _ _ _ (he x (by simp))) ?_
    refine EvKit.itt (by simp only [List.length_append, List.length_map, List.length_replicate, List.length_cons]; omega) ?_
    rw [EvKit.w64 (n := (i : Int) + 1) (by omega) (by omega)]
    have e : (p.map toBoxC ++ List.replicate (x :: q).length z161).set (i : Int).toNat (toBoxC x) = (p ++ [x]).map toBoxC ++ List.replicate q.length z161 := by
      rw [List.length_cons, List.replicate_succ]
      have h2 := ListKit.set_at (p.map toBoxC) z161 (toBoxC x) (List.replicate q.length z161)
      rw [List.length_map, ← hi] at h2
      rw [h2]
      simp
    have e2 : p ++ x :: q = (p ++ [x]) ++ q := by simp
    refine EvKit.ev_to (Ev.congr (fun k => ?_) (ih (p ++ [x]) (i + 1) (by simp; omega) (by simp only [List.length_append, List.length_cons, List.length_nil]; omega) (fun y hy => he y (by simp [hy])))) (by rw [e2])
    rw [← e, ← e2]
    rfl
theorem laws_toBoxS.ev (l : List S159) (hl : l.length ≤ 1048576) (he : ∀ x ∈ l, x.f2.length ≤ 1048576) : Ev (fun k => laws_toBoxS.f k l) (l.map toBoxC) := by
  unfold laws_toBoxS.f
  exact EvKit.itt (by omega) (EvKit.itt (by omega) (laws_toBoxS.ev_l l [] 0 rfl (by simp; omega) he))
theorem rd_T161_drop (l : List S161) (i : Nat) (h : i < l.length) : l.drop i = rd_T161 l (i : Int) :: l.drop (i + 1) := by
  rw [List.drop_eq_getElem_cons h]
  simp [rd_T161, List.getD, List.getElem?_eq_getElem h]
theorem rd_T161_mem (l : List S161) (i : Nat) (h : i < l.length) : rd_T161 l (i : Int) ∈ l :=
  List.drop_subset i l (by rw [rd_T161_drop l i h]; exact List.mem_cons_self)
theorem laws_eqBoxS.ev_l (l : List S161) (hl : l.length ≤ 9223372036854775806) (he : ∀ x ∈ l, x.f2.length ≤ 9223372036854775806) : ∀ (d i : Nat), l.length - i = d → i ≤ l.length → Ev (fun k => laws_eqBoxS.l0 k l l (i : Int)) true := by
  intro d
  induction d with
  | zero =>
    intro i hd hi
    refine Ev.step (fun k => by rw [laws_eqBoxS.l0]) ?_
    exact EvKit.itf (by omega) (EvKit.ret rfl)
  | succ d ih =>
    intro i hd hi
    refine Ev.step (fun k => by rw [laws_eqBoxS.l0]) ?_
    refine EvKit.itt (by omega) (EvKit.itt (by omega) (EvKit.itt (by omega) (Ev.bind (laws_eqBox.ev _ _ _ _ (he _ (rd_T161_mem l i (by omega)))) (EvKit.itt rfl ?_))))
    rw [EvKit.w64 (n := (i : Int) + 1) (by omega) (by omega)]
    exact ih (i + 1) (by omega) (by omega)
theorem laws_eqBoxS.ev (l : List S161) (hl : l.length ≤ 9223372036854775806) (he : ∀ x ∈ l, x.f2.length ≤ 9223372036854775806) : Ev (fun k => laws_eqBoxS.f k l l) true := by
  unfold laws_eqBoxS.f
  exact EvKit.itt rfl (laws_eqBoxS.ev_l l hl he _ 0 rfl (by omega))
theorem boxes_len {l : List S159} (h : szBoxes l ≤ 1048576) : ∀ x ∈ l.map toBoxC, x.f2.length ≤ 9223372036854775806 := by
  intro x hx
  obtain ⟨y, hy, rfl⟩ := List.mem_map.1 hx
  have := szBoxes_mem hy
  simp only [toBoxC]
  omega

/-! ### boxes: keys, MACs, opening -/
def okKey (a : Int) : Bool := decide (1 ≤ a ∧ a ≤ 2147483646)
theorem spec_IsValidKey.eq (a : Int) : spec_IsValidKey.f a = some (okKey a) := by unfold spec_IsValidKey.f; rw [spec_l1In.eq]; rfl
theorem impl_IsValidKey.eq (a : Int) : impl_IsValidKey.f a = some (okKey a) := by unfold impl_IsValidKey.f; rw [impl_InRange.eq]; rfl
def pubKey (a : Int) : Int := if okKey a = true then Int.tmod (wrap64 (a * 48271)) 2147483647 else 0
theorem spec_PublicKey.eq (a : Int) : spec_PublicKey.f a = some (pubKey a) := by
  unfold spec_PublicKey.f pubKey
  rw [spec_IsValidKey.eq, Option.bind_some]
  split <;> rfl
theorem impl_PublicKey.eq (a : Int) : impl_PublicKey.f a = some (pubKey a) := by
  unfold impl_PublicKey.f pubKey
  rw [impl_IsValidKey.eq, Option.bind_some]
  split <;> rfl
def b2i (l : List Int) : List Int := (l.length : Int) :: l.map wrap64
theorem rd_dropB (l : List Int) (i : Nat) (h : i < l.length) : l.drop i = rd l (i : Int) :: l.drop (i + 1) := by
  rw [List.drop_eq_getElem_cons h]
  simp [rd, List.getD, List.getElem?_eq_getElem h]
theorem spec_BytesToInts.ev (l : List Int) (hl : l.length ≤ 1048576) : Ev (fun k => spec_BytesToInts.f k l) (b2i l) := by
  unfold spec_BytesToInts.f
  have h : ∀ (d i : Nat) (p : List Int), l.length - i = d → i ≤ l.length → p.length = i + 1 → Ev (fun k => spec_BytesToInts.l0 k l p (i : Int)) (p ++ (l.drop i).map wrap64) := by
    intro d
    induction d with
    | zero =>
      intro i p hd hi hp
      refine Ev.step (fun k => by rw [spec_BytesToInts.l0]) ?_
      rw [List.drop_of_length_le (by omega)]
      exact EvKit.itf (by omega) (EvKit.ret (by simp))
    | succ d ih =>
      intro i p hd hi hp
      refine Ev.step (fun k => by rw [spec_BytesToInts.l0]) ?_
      rw [rd_dropB l i (by omega), EvKit.w64 (n := (i : Int) + 1) (by omega) (by omega)]
      refine EvKit.itt (by omega) (EvKit.itt (by omega) (EvKit.itt (by omega) (EvKit.ev_to (ih (i + 1) (p ++ [wrap64 (rd l (i : Int))]) (by omega) (by omega) (by simp; omega)) ?_)))
      simp
  exact EvKit.ev_to (h _ 0 [(l.length : Int)] rfl (by omega) rfl) (by simp [b2i])
theorem impl_BytesToInts.ev (l : List Int) (hl : l.length ≤ 1048576) : Ev (fun k => impl_BytesToInts.f k l) (b2i l) := by
  unfold impl_BytesToInts.f
  have h : ∀ (d i : Nat) (p : List Int), l.length - i = d → i ≤ l.length → p.length = i + 1 → Ev (fun k => impl_BytesToInts.l0 k p l (l.length : Int) (i : Int)) (p ++ (l.drop i).map wrap64) := by
    intro d
    induction d with
    | zero =>
      intro i p hd hi hp
      refine Ev.step (fun k => by rw [impl_BytesToInts.l0]) ?_
      rw [List.drop_of_length_le (by omega)]
      exact EvKit.itf (by omega) (EvKit.ret (by simp))
    | succ d ih =>
      intro i p hd hi hp
      refine Ev.step (fun k => by rw [impl_BytesToInts.l0]) ?_
      rw [rd_dropB l i (by omega), EvKit.w64 (n := (i : Int) + 1) (by omega) (by omega)]
      refine EvKit.itt (by omega) (EvKit.itt (by omega) (EvKit.itt (by omega) (EvKit.itt (by omega) (EvKit.ev_to (ih (i + 1) (p ++ [wrap64 (rd l (i : Int))]) (by omega) (by omega) (by simp; omega)) ?_))))
      simp
  exact EvKit.ev_to (h _ 0 [(l.length : Int)] rfl (by omega) rfl) (by simp [b2i])
theorem b2i_len (l : List Int) : (b2i l).length = l.length + 1 := by simp [b2i]
def boxMac (key tw eph : Int) (data : List Int) : Int := keyed key ([167, tw, eph] ++ b2i data)
theorem spec_BoxMAC.ev (key tw eph : Int) (data : List Int) (m : Int) (hl : data.length ≤ 1048576) : Ev (fun k => spec_BoxMAC.f k key tw eph data m) (boxMac key tw eph data) := by
  unfold spec_BoxMAC.f
  have hn := b2i_len data
  exact EvKit.now (Ev.bind (spec_BytesToInts.ev data hl) (EvKit.itt (by simp only [List.length_cons, List.length_nil]; omega) (Ev.bind (spec_KeyedHash.ev _ _ (by simp only [List.length_append, List.length_cons, List.length_nil]; omega)) (EvKit.ret rfl))))
theorem impl_BoxMAC.ev (key tw eph : Int) (data : List Int) (m : Int) (hl : data.length ≤ 1048576) : Ev (fun k => impl_BoxMAC.f k key tw eph data m) (boxMac key tw eph data) := by
  unfold impl_BoxMAC.f
  have hn := b2i_len data
  refine Ev.bind (impl_BytesToInts.ev data hl) (Ev.bind (impl_joined.ev _ _ (by simp) (by simp only [lenSum, List.length_cons, List.length_nil]; omega)) (Ev.bind (impl_KeyedHash.ev _ _ (by simp only [List.flatten_cons, List.flatten_nil, List.append_nil, List.length_append, List.length_cons, List.length_nil]; omega)) (EvKit.ret ?_)))
  simp [boxMac]
theorem spec_BoxKey.ev (a b : Int) : Ev (fun k => spec_BoxKey.f k a b) (deriveK a [163, b]) := by
  unfold spec_BoxKey.f
  exact Ev.bind (spec_DeriveKey.ev _ _ (by simp)) (EvKit.ret rfl)
theorem impl_BoxKey.ev (a b : Int) : Ev (fun k => impl_BoxKey.f k a b) (deriveK a [163, b]) := by
  unfold impl_BoxKey.f
  exact Ev.bind (impl_DeriveKey.ev _ _ (by simp)) (EvKit.ret rfl)
def decB (key : Int) (i b : Int) : Int := (wrap64 (wrap64 b - keyed key [i])) % 256
def decL (key : Int) : Nat → List Int → List Int
  | _, [] => []
  | i, b :: l => decB key (i : Int) b :: decL key (i + 1) l
theorem decL_len (key : Int) : ∀ (l : List Int) (i : Nat), (decL key i l).length = l.length
  | [], _ => rfl
  | _ :: l, i => by simp [decL, decL_len key l]
theorem decB_bd (key i b : Int) : 0 ≤ decB key i b ∧ decB key i b < 256 := by unfold decB; omega
theorem decL_bd (key : Int) : ∀ (l : List Int) (i : Nat), ∀ x ∈ decL key i l, 0 ≤ x ∧ x < 256
  | [], _, x, h => by simp [decL] at h
  | b :: l, i, x, h => by
    rcases List.mem_cons.1 h with rfl | h
    · exact decB_bd _ _ _
    · exact decL_bd key l (i + 1) x h
theorem decB_spec (key i b : Int) (hb : 0 ≤ b) (hb2 : b < 256) : wrap64 (wrap64 b - Int.tmod (keyed key [i]) 256) % 256 = decB key i b := by
  have h := keyed_bd key [i]
  unfold decB
  generalize keyed key [i] = z at h ⊢
  rw [Int.tmod_eq_emod_of_nonneg h.1]
  unfold wrap64
  omega
theorem spec_Decrypt.ev (key : Int) (l : List Int) (hl : l.length ≤ 1048576) (hb : ∀ x ∈ l, 0 ≤ x ∧ x < 256) : Ev (fun k => spec_Decrypt.f k key l) (decL key 0 l) := by
  unfold spec_Decrypt.f
  have h : ∀ (d i : Nat) (p : List Int), l.length - i = d → i ≤ l.length → p.length = i → Ev (fun k => spec_Decrypt.l0 k key l p (i : Int)) (p ++ decL key i (l.drop i)) := by
    intro d
    induction d with
    | zero =>
      intro i p hd hi hp
      refine Ev.step (fun k => by rw [spec_Decrypt.l0]) ?_
      rw [List.drop_of_length_le (by omega)]
      exact EvKit.itf (by omega) (EvKit.ret (by simp [decL]))
    | succ d ih =>
      intro i p hd hi hp
      have hm : rd l (i : Int) ∈ l := List.drop_subset i l (by rw [rd_dropB l i (by omega)]; exact List.mem_cons_self)
      have hbb := hb _ hm
      refine Ev.step (fun k => by rw [spec_Decrypt.l0]) ?_
      rw [rd_dropB l i (by omega), EvKit.w64 (n := (i : Int) + 1) (by omega) (by omega)]
      have e : modI (wrap64 (wrap64 (rd l (i : Int)) - Int.tmod (keyed key [(i : Int)]) 256)) 256 % 256 = decB key (i : Int) (rd l (i : Int)) := by
        rw [modI_pos _ (by omega) (by omega)]
        have := decB_bd key (i : Int) (rd l (i : Int))
        rw [decB_spec key _ _ hbb.1 hbb.2]; omega
      refine EvKit.itt (by omega) (EvKit.itt (by omega) (Ev.bind (spec_KeyedHash.ev key [(i : Int)] (by simp)) (EvKit.bnd (spec_Mod.eq _ _) ?_)))
      rw [e]
      exact EvKit.itt (by omega) (EvKit.ev_to (ih (i + 1) (p ++ [decB key (i : Int) (rd l (i : Int))]) (by omega) (by omega) (by simp; omega)) (by simp [decL]))
  exact EvKit.ev_to (h _ 0 [] rfl (by omega) rfl) (by simp)
theorem impl_Decrypt.ev (key : Int) (l : List Int) (hl : l.length ≤ 1048576) : Ev (fun k => impl_Decrypt.f k key l) (decL key 0 l) := by
  unfold impl_Decrypt.f
  have h : ∀ (d i : Nat) (p : List Int), l.length - i = d → i ≤ l.length → p.length = i → Ev (fun k => impl_Decrypt.l0 k key p l (l.length : Int) (i : Int)) (p ++ decL key i (l.drop i)) := by
    intro d
    induction d with
    | zero =>
      intro i p hd hi hp
      refine Ev.step (fun k => by rw [impl_Decrypt.l0]) ?_
      rw [List.drop_of_length_le (by omega)]
      exact EvKit.itf (by omega) (EvKit.ret (by simp [decL]))
    | succ d ih =>
      intro i p hd hi hp
      refine Ev.step (fun k => by rw [impl_Decrypt.l0]) ?_
      rw [rd_dropB l i (by omega), EvKit.w64 (n := (i : Int) + 1) (by omega) (by omega)]
      have e : modI (wrap64 (wrap64 (rd l (i : Int)) - keyed key [(i : Int)])) 256 % 256 = decB key (i : Int) (rd l (i : Int)) := by
        rw [modI_pos _ (by omega) (by omega)]
        have := decB_bd key (i : Int) (rd l (i : Int))
        unfold decB at this ⊢; omega
      refine EvKit.itt (by omega) (EvKit.itt (by omega) (EvKit.itt (by omega) (Ev.bind (impl_KeyedHash.ev key [(i : Int)] (by simp)) (Ev.bind (impl_Mod.ev _ _) ?_))))
      rw [e]
      exact EvKit.itt (by omega) (EvKit.ev_to (ih (i + 1) (p ++ [decB key (i : Int) (rd l (i : Int))]) (by omega) (by omega) (by simp; omega)) (by simp [decL]))
  exact EvKit.ev_to (h _ 0 [] rfl (by omega) rfl) (by simp)
def openV (key tw eph : Int) (data : List Int) (mac : Int) : List Int × Bool :=
  if okKey key = true ∧ tw = pubKey key ∧ okKey eph = true ∧ (data.length : Int) ≤ 200 then (if mac = boxMac (deriveK key [163, eph]) tw eph data then (decL (deriveK key [163, eph]) 0 data, true) else ([], false)) else ([], false)
theorem spec_OpenBox.ev (key tw eph : Int) (data : List Int) (mac : Int) (hl : data.length ≤ 1048576) (hb : ∀ x ∈ data, 0 ≤ x ∧ x < 256) : Ev (fun k => spec_OpenBox.f k key tw eph data mac) (openV key tw eph data mac) := by
  unfold spec_OpenBox.f openV
  have hf : Ev (fun k => spec_OpenBox.j0 k key true tw eph data mac) ([], false) := by
    refine Ev.step (fun k => by rw [spec_OpenBox.j0]) ?_
    exact EvKit.itt rfl (EvKit.ret rfl)
  refine EvKit.bnd (spec_IsValidKey.eq key) (EvKit.ite (fun h1 => EvKit.bnd (spec_PublicKey.eq key) (EvKit.ite (fun h2 => EvKit.bnd (spec_IsValidKey.eq eph) (EvKit.ite (fun h3 => ?_) (fun h3 => ?_))) (fun h2 => ?_))) (fun h1 => ?_))
  · by_cases h4 : (data.length : Int) > 200
    · rw [decide_eq_true h4, if_neg (by omega)]; exact hf
    · rw [decide_eq_false h4, if_pos ⟨h1, h2, h3, by omega⟩]
      refine Ev.step (fun k => by rw [spec_OpenBox.j0]) ?_
      refine EvKit.itf (by simp) (Ev.bind (spec_BoxKey.ev key eph) (Ev.bind (spec_BoxMAC.ev _ _ _ _ _ hl) (EvKit.ite (fun h5 => ?_) (fun h5 => ?_))))
      · rw [if_pos h5]; exact Ev.bind (spec_Decrypt.ev _ data hl hb) (EvKit.ret rfl)
      · rw [if_neg h5]; exact EvKit.ret rfl
  · rw [if_neg (fun h => h3 h.2.2.1)]; exact hf
  · rw [if_neg (fun h => h2 h.2.1)]; exact hf
  · rw [if_neg (fun h => h1 h.1)]; exact hf
theorem impl_OpenBox.ev (key tw eph : Int) (data : List Int) (mac : Int) (hl : data.length ≤ 1048576) : Ev (fun k => impl_OpenBox.f k key tw eph data mac) (openV key tw eph data mac) := by
  unfold impl_OpenBox.f openV
  have hf : Ev (fun k => impl_OpenBox.j0 k key true tw eph data mac) ([], false) := by
    refine Ev.step (fun k => by rw [impl_OpenBox.j0]) ?_
    exact EvKit.itt rfl (EvKit.ret rfl)
  refine EvKit.bnd (impl_IsValidKey.eq key) (EvKit.ite (fun h1 => EvKit.bnd (impl_PublicKey.eq key) (EvKit.ite (fun h2 => EvKit.bnd (impl_IsValidKey.eq eph) (EvKit.ite (fun h3 => ?_) (fun h3 => ?_))) (fun h2 => ?_))) (fun h1 => ?_))
  · by_cases h4 : (data.length : Int) > 200
    · rw [decide_eq_true h4, if_neg (by omega)]; exact hf
    · rw [decide_eq_false h4, if_pos ⟨h1, h2, h3, by omega⟩]
      refine Ev.step (fun k => by rw [impl_OpenBox.j0]) ?_
      refine EvKit.itf (by simp) (Ev.bind (impl_BoxKey.ev key eph) (Ev.bind (impl_BoxMAC.ev _ _ _ _ _ hl) (EvKit.ite (fun h5 => ?_) (fun h5 => ?_))))
      · rw [if_pos h5]; exact Ev.bind (impl_Decrypt.ev _ data hl) (EvKit.ret rfl)
      · rw [if_neg h5]; exact EvKit.ret rfl
  · rw [if_neg (fun h => h3 h.2.2.1)]; exact hf
  · rw [if_neg (fun h => h2 h.2.1)]; exact hf
  · rw [if_neg (fun h => h1 h.1)]; exact hf
theorem openV_bd (key tw eph : Int) (data : List Int) (mac : Int) : (openV key tw eph data mac).1.length ≤ 200 ∧ ∀ x ∈ (openV key tw eph data mac).1, 0 ≤ x ∧ x < 256 := by
  unfold openV
  split
  · rename_i h
    split
    · refine ⟨?_, decL_bd _ _ _⟩
      show (decL (deriveK key [163, eph]) 0 data).length ≤ 200
      have := decL_len (deriveK key [163, eph]) data 0
      have := h.2.2.2
      omega
    · simp
  · simp
def findV (key : Int) : List S161 → List Int × Bool
  | [] => ([], false)
  | x :: l => if (openV key x.f0 x.f1 x.f2 x.f3).2 = true then ((openV key x.f0 x.f1 x.f2 x.f3).1, true) else findV key l
theorem findV_bd (key : Int) : ∀ l : List S161, (findV key l).1.length ≤ 200 ∧ ∀ x ∈ (findV key l).1, 0 ≤ x ∧ x < 256
  | [] => by simp [findV]
  | x :: l => by
    unfold findV
    split
    · exact openV_bd _ _ _ _ _
    · exact findV_bd key l
theorem spec_FindBox.ev (l : List S161) (key : Int) (hl : l.length ≤ 1048576) (he : ∀ x ∈ l, x.f2.length ≤ 1048576 ∧ ∀ y ∈ x.f2, 0 ≤ y ∧ y < 256) : Ev (fun k => spec_FindBox.f k l key) (findV key l) := by
  unfold spec_FindBox.f
  have h : ∀ (d i : Nat), l.length - i = d → i ≤ l.length → Ev (fun k => spec_FindBox.l0 k l key (i : Int)) (findV key (l.drop i)) := by
    intro d
    induction d with
    | zero =>
      intro i hd hi
      refine Ev.step (fun k => by rw [spec_FindBox.l0]) ?_
      rw [List.drop_of_length_le (by omega)]
      exact EvKit.itf (by omega) (EvKit.ret rfl)
    | succ d ih =>
      intro i hd hi
      have hm := he _ (rd_T161_mem l i (by omega))
      refine Ev.step (fun k => by rw [spec_FindBox.l0]) ?_
      rw [rd_T161_drop l i (by omega), findV, EvKit.w64 (n := (i : Int) + 1) (by omega) (by omega)]
      refine EvKit.itt (by omega) (EvKit.itt (by omega) (Ev.bind (spec_OpenBox.ev _ _ _ _ _ hm.1 hm.2) (EvKit.ite (fun h => ?_) (fun h => ?_))))
      · rw [if_pos h]; exact EvKit.ret rfl
      · rw [if_neg h]; exact ih (i + 1) (by omega) (by omega)
  exact h _ 0 rfl (by omega)
theorem impl_FindBox.ev (l : List S161) (key : Int) (hl : l.length ≤ 1048576) (he : ∀ x ∈ l, x.f2.length ≤ 1048576 ∧ ∀ y ∈ x.f2, 0 ≤ y ∧ y < 256) : Ev (fun k => impl_FindBox.f k l key) (findV key l) := by
  unfold impl_FindBox.f
  have h : ∀ (d i : Nat), l.length - i = d → i ≤ l.length → Ev (fun k => impl_FindBox.l0 k key l (l.length : Int) (i : Int)) (findV key (l.drop i)) := by
    intro d
    induction d with
    | zero =>
      intro i hd hi
      refine Ev.step (fun k => by rw [impl_FindBox.l0]) ?_
      rw [List.drop_of_length_le (by omega)]
      exact EvKit.itf (by omega) (EvKit.ret rfl)
    | succ d ih =>
      intro i hd hi
      have hm := he _ (rd_T161_mem l i (by omega))
      refine Ev.step (fun k => by rw [impl_FindBox.l0]) ?_
      rw [rd_T161_drop l i (by omega), findV, EvKit.w64 (n := (i : Int) + 1) (by omega) (by omega)]
      refine EvKit.itt (by omega) (EvKit.itt (by omega) (EvKit.itt (by omega) (Ev.bind (impl_OpenBox.ev _ _ _ _ _ hm.1) (EvKit.ite (fun h => ?_) (fun h => ?_)))))
      · rw [if_pos h]; exact EvKit.ret rfl
      · rw [if_neg h]; exact ih (i + 1) (by omega) (by omega)
  exact h _ 0 rfl (by omega)

/-! ### numbers read out of bytes -/
theorem or_add (x y : Int) (i : Nat) (hi : i ≤ 40) (hx0 : 0 ≤ x) (hx : x < 2 ^ i) (hy0 : 0 ≤ y) (hy1 : y < 2 ^ 62) (hy : y % 2 ^ i = 0) : Go.bits .or .i64 x y = x + y := by
  have hk : ∀ n : Int, 0 ≤ n → n < 2 ^ 62 → IntKind.i64.wrap n = n := fun n h0 h1 => by rw [i64_w]; unfold wrap64; omega
  have hp : (2 : Int) ^ i ≤ 2 ^ 40 := by
    have h := Nat.pow_le_pow_right (show 0 < 2 by decide) hi
    exact_mod_cast h
  have hx1 : x < 2 ^ 62 := by omega
  obtain ⟨a, rfl⟩ := Int.eq_ofNat_of_zero_le hx0
  obtain ⟨b, rfl⟩ := Int.eq_ofNat_of_zero_le hy0
  have ha : a < 2 ^ 62 := by exact_mod_cast hx1
  have hb : b < 2 ^ 62 := by exact_mod_cast hy1
  have h1 := (Go.bits_nat .i64 62 (by decide) hk a b ha hb).2
  have h2 := (Go.bits_nat .i64 62 (by decide) hk b a hb ha).2
  rw [h1, Nat.or_comm, ← h2, Go.bits_join .i64 62 (by decide) hk i _ _ hy0 hy hy1 hx0 hx hx1]
  omega
theorem and_mod (x : Int) (h0 : 0 ≤ x) (h1 : x < 256) : Go.bits .and .i64 x 127 = x % 128 := by
  have hk : ∀ n : Int, 0 ≤ n → n < 2 ^ 62 → IntKind.i64.wrap n = n := fun n h0 h1 => by rw [i64_w]; unfold wrap64; omega
  exact Go.bits_mask .i64 62 (by decide) hk 7 (by decide) x h0 (by omega)
def uvR (l : List Int) (at_ : Int) : Nat → Int → Int × Int × Bool
  | 0, _ => (0, 0, false)
  | d + 1, acc =>
    if (l.length : Int) ≤ at_ + (5 - (d : Int)) then (0, 0, false)
    else if rd l (at_ + (5 - (d : Int))) < 128 then
      (if rd l (at_ + (5 - (d : Int))) = 0 ∧ 0 < 5 - (d : Int) then (0, 0, false)
       else if acc + rd l (at_ + (5 - (d : Int))) % 128 * 2 ^ (7 * (5 - d)) > 1000000000000 then (0, 0, false)
       else (acc + rd l (at_ + (5 - (d : Int))) % 128 * 2 ^ (7 * (5 - d)), at_ + (5 - (d : Int)) + 1, true))
    else uvR l at_ d (acc + rd l (at_ + (5 - (d : Int))) % 128 * 2 ^ (7 * (5 - d)))
theorem uvR_at (l : List Int) (at_ : Int) (h0 : 0 ≤ at_) : ∀ (d : Nat) (acc : Int), d ≤ 6 → 0 ≤ (uvR l at_ d acc).2.1 ∧ (uvR l at_ d acc).2.1 ≤ (l.length : Int)
  | 0, acc, _ => by simp [uvR]
  | d + 1, acc, hd => by
    unfold uvR
    have := uvR_at l at_ h0 d (acc + rd l (at_ + (5 - (d : Int))) % 128 * 2 ^ (7 * (5 - d))) (by omega)
    (repeat' split) <;> first | exact this | (dsimp only; omega)
theorem rd_bd (l : List Int) (hb : ∀ x ∈ l, 0 ≤ x ∧ x < 256) (i : Int) : 0 ≤ rd l i ∧ rd l i < 256 := by
  unfold rd
  rw [List.getD_eq_getElem?_getD]
  by_cases h : i.toNat < l.length
  · rw [List.getElem?_eq_getElem h]; exact hb _ (List.getElem_mem h)
  · rw [List.getElem?_eq_none (by omega)]; exact ⟨by decide, by decide⟩
theorem pow_le35 (i : Nat) (hi : i ≤ 5) : 1 ≤ (2 : Int) ^ (7 * i) ∧ (2 : Int) ^ (7 * i) ≤ 34359738368 := by
  have : i = 0 ∨ i = 1 ∨ i = 2 ∨ i = 3 ∨ i = 4 ∨ i = 5 := by omega
  rcases this with rfl | rfl | rfl | rfl | rfl | rfl <;> decide
theorem pow_next (i : Nat) : (2 : Int) ^ (7 * i) * 128 = 2 ^ (7 * (i + 1)) := by
  rw [show 7 * (i + 1) = 7 * i + 7 by omega, Int.pow_add]; rfl
def uvStep (l : List Int) (at_ : Int) (i : Nat) (acc : Int) (R : Int × Int × Bool) : Int × Int × Bool :=
  if (l.length : Int) ≤ at_ + (i : Int) then (0, 0, false)
  else if rd l (at_ + (i : Int)) < 128 then
    (if rd l (at_ + (i : Int)) = 0 ∧ 0 < (i : Int) then (0, 0, false)
     else if acc + rd l (at_ + (i : Int)) % 128 * 2 ^ (7 * i) > 1000000000000 then (0, 0, false)
     else (acc + rd l (at_ + (i : Int)) % 128 * 2 ^ (7 * i), at_ + (i : Int) + 1, true))
  else R
theorem uvR_step (l : List Int) (at_ : Int) (d : Nat) (hd : d ≤ 5) (acc : Int) : uvR l at_ (d + 1) acc = uvStep l at_ (5 - d) acc (uvR l at_ d (acc + rd l (at_ + ((5 - d : Nat) : Int)) % 128 * 2 ^ (7 * (5 - d)))) := by
  have e : (5 : Int) - (d : Int) = ((5 - d : Nat) : Int) := by omega
  rw [uvR, e]
  rfl
theorem impl_ReadUvarint.step (l : List Int) (at_ : Int) (hl : l.length ≤ 200) (hb : ∀ x ∈ l, 0 ≤ x ∧ x < 256) (h0 : 0 ≤ at_) (h1 : at_ ≤ (l.length : Int)) (i : Nat) (hi : i ≤ 5) (acc : Int) (ha0 : 0 ≤ acc) (ha : acc < 2 ^ (7 * i)) (R : Int × Int × Bool)
    (next : Ev (fun k => impl_ReadUvarint.l0 k l at_ (acc + rd l (at_ + (i : Int)) % 128 * 2 ^ (7 * i)) (2 ^ (7 * (i + 1))) ((i : Int) + 1)) R) :
    Ev (fun k => impl_ReadUvarint.l0 k l at_ acc (2 ^ (7 * i)) (i : Int)) (uvStep l at_ i acc R) := by
  have hp := pow_le35 i hi
  rw [← pow_next] at next
  unfold uvStep
  refine Ev.step (fun k => by rw [impl_ReadUvarint.l0]) ?_
  generalize (2 : Int) ^ (7 * i) = P at ha hp next ⊢
  rw [EvKit.w64 (n := at_ + (i : Int)) (by omega) (by omega), EvKit.w64 (n := at_ + (i : Int) + 1) (by omega) (by omega)]
  have hr := rd_bd l hb (at_ + (i : Int))
  generalize rd l (at_ + (i : Int)) = b at hr next ⊢
  rw [EvKit.w64 (n := b) (by omega) (by omega), Int.tmod_eq_emod_of_nonneg hr.1]
  have hm0 : 0 ≤ b % 128 * P := Int.mul_nonneg (by omega) (by omega)
  have hm1 : b % 128 * P ≤ 127 * P := Int.mul_le_mul_of_nonneg_right (by omega) (by omega)
  generalize b % 128 * P = z at hm0 hm1 next ⊢
  rw [EvKit.w64 (n := z) (by omega) (by omega), EvKit.w64 (n := acc + z) (by omega) (by omega), EvKit.w64 (n := P * 128) (by omega) (by omega), EvKit.w64 (n := (i : Int) + 1) (by omega) (by omega)]
  refine EvKit.itt (by omega) (EvKit.ite (fun h => ?_) (fun h => EvKit.itt (by omega) (EvKit.itt (by omega) (EvKit.ite (fun h2 => ?_) (fun h2 => ?_)))))
  · rw [if_pos (by omega)]; exact EvKit.ret rfl
  · rw [if_neg (show ¬ ((l.length : Int) ≤ at_ + (i : Int)) by omega), if_pos h2]
    refine EvKit.ite (fun h3 => EvKit.ite (fun h4 => ?_) (fun h4 => EvKit.ite (fun h5 => ?_) (fun h5 => ?_))) (fun h3 => EvKit.ite (fun h5 => ?_) (fun h5 => ?_))
    · rw [if_pos ⟨h4, by omega⟩]; exact EvKit.ret rfl
    · rw [if_neg (by omega), if_pos h5]; exact EvKit.ret rfl
    · rw [if_neg (by omega), if_neg h5]; exact EvKit.ret rfl
    · rw [if_neg (by omega), if_pos h5]; exact EvKit.ret rfl
    · rw [if_neg (by omega), if_neg h5]; exact EvKit.ret rfl
  · rw [if_neg (by omega), if_neg h2]; exact next
theorem impl_ReadUvarint.ev_l (l : List Int) (at_ : Int) (hl : l.length ≤ 200) (hb : ∀ x ∈ l, 0 ≤ x ∧ x < 256) (h0 : 0 ≤ at_) (h1 : at_ ≤ (l.length : Int)) : ∀ (d : Nat) (acc : Int), d ≤ 6 → 0 ≤ acc → acc < 2 ^ (7 * (6 - d)) → Ev (fun k => impl_ReadUvarint.l0 k l at_ acc (2 ^ (7 * (6 - d))) ((6 - d : Nat) : Int)) (uvR l at_ d acc)
  | 0, acc, _, _, _ => by
    refine Ev.step (fun k => by rw [impl_ReadUvarint.l0]) ?_
    exact EvKit.itf (by omega) (EvKit.ret rfl)
  | d + 1, acc, hd, h2, h3 => by
    rw [show 6 - (d + 1) = 5 - d by omega] at h3 ⊢
    rw [uvR_step l at_ d (by omega)]
    have hr := rd_bd l hb (at_ + ((5 - d : Nat) : Int))
    have hp := pow_le35 (5 - d) (by omega)
    have hm0 : 0 ≤ rd l (at_ + ((5 - d : Nat) : Int)) % 128 * 2 ^ (7 * (5 - d)) := Int.mul_nonneg (by omega) (by omega)
    have hm1 : rd l (at_ + ((5 - d : Nat) : Int)) % 128 * 2 ^ (7 * (5 - d)) ≤ 127 * 2 ^ (7 * (5 - d)) := Int.mul_le_mul_of_nonneg_right (by omega) (by omega)
    have e := pow_next (5 - d)
    rw [show 5 - d + 1 = 6 - d by omega] at e
    have ih := impl_ReadUvarint.ev_l l at_ hl hb h0 h1 d (acc + rd l (at_ + ((5 - d : Nat) : Int)) % 128 * 2 ^ (7 * (5 - d))) (by omega) (by omega) (by omega)
    refine impl_ReadUvarint.step l at_ hl hb h0 h1 (5 - d) (by omega) acc h2 h3 _ ?_
    rw [show 5 - d + 1 = 6 - d by omega, show ((5 - d : Nat) : Int) + 1 = ((6 - d : Nat) : Int) by omega]
    exact ih
def uv (l : List Int) (at_ : Int) : Int × Int × Bool := uvR l at_ 6 0
theorem impl_ReadUvarint.ev (l : List Int) (at_ : Int) (hl : l.length ≤ 200) (hb : ∀ x ∈ l, 0 ≤ x ∧ x < 256) (h0 : 0 ≤ at_) (h1 : at_ ≤ (l.length : Int)) : Ev (fun k => impl_ReadUvarint.f k l at_) (uv l at_) := by
  unfold impl_ReadUvarint.f
  refine EvKit.itf (by omega) ?_
  refine Ev.step (fun k => by rw [impl_ReadUvarint.j0]) ?_
  refine EvKit.ite (fun h => ?_) (fun h => ?_)
  · have h' := of_decide_eq_true h
    refine EvKit.ret ?_
    unfold uv
    rw [uvR_step l at_ 5 (by omega), uvStep, if_pos (by omega)]
  · exact impl_ReadUvarint.ev_l l at_ hl hb h0 h1 6 0 (by omega) (by omega) (by decide)
theorem spec_ReadUvarint.step (l : List Int) (at_ : Int) (hl : l.length ≤ 200) (hb : ∀ x ∈ l, 0 ≤ x ∧ x < 256) (h0 : 0 ≤ at_) (h1 : at_ ≤ (l.length : Int)) (i : Nat) (hi : i ≤ 5) (acc : Int) (ha0 : 0 ≤ acc) (ha : acc < 2 ^ (7 * i)) (R : Int × Int × Bool)
    (next : Ev (fun k => spec_ReadUvarint.l0 k l at_ (acc + rd l (at_ + (i : Int)) % 128 * 2 ^ (7 * i)) ((i : Int) + 1)) R) :
    Ev (fun k => spec_ReadUvarint.l0 k l at_ acc (i : Int)) (uvStep l at_ i acc R) := by
  have hp := pow_le35 i hi
  have hr := rd_bd l hb (at_ + (i : Int))
  have hm0 : 0 ≤ rd l (at_ + (i : Int)) % 128 * 2 ^ (7 * i) := Int.mul_nonneg (by omega) (by omega)
  have hm1 : rd l (at_ + (i : Int)) % 128 * 2 ^ (7 * i) ≤ 127 * 2 ^ (7 * i) := Int.mul_le_mul_of_nonneg_right (by omega) (by omega)
  have es : shl .i64 (Go.bits .and .i64 (rd l (at_ + (i : Int))) 127) (7 * (i : Int)) = rd l (at_ + (i : Int)) % 128 * 2 ^ (7 * i) := by
    rw [and_mod _ hr.1 hr.2]
    unfold shl
    rw [show ((7 * (i : Int)).toNat) = 7 * i by omega, Nat.min_eq_left (show 7 * i ≤ IntKind.i64.bits by have : IntKind.i64.bits = 64 := rfl; omega), i64_w, EvKit.w64 (by omega) (by omega)]
  have eo : Go.bits .or .i64 acc (rd l (at_ + (i : Int)) % 128 * 2 ^ (7 * i)) = acc + rd l (at_ + (i : Int)) % 128 * 2 ^ (7 * i) := or_add _ _ (7 * i) (by omega) ha0 ha hm0 (by omega) (Int.mul_emod_left _ _)
  unfold uvStep
  refine Ev.step (fun k => by rw [spec_ReadUvarint.l0]) ?_
  refine EvKit.itt (by omega) (EvKit.itf (by omega) ?_)
  refine Ev.step (fun k => by rw [spec_ReadUvarint.j1]) ?_
  rw [EvKit.w64 (n := at_ + (i : Int)) (by omega) (by omega), EvKit.w64 (n := at_ + (i : Int) + 1) (by omega) (by omega), EvKit.w64 (n := rd l (at_ + (i : Int))) (by omega) (by omega), EvKit.w64 (n := (l.length : Int) - (i : Int)) (by omega) (by omega), EvKit.w64 (n := 7 * (i : Int)) (by omega) (by omega), EvKit.w64 (n := (i : Int) + 1) (by omega) (by omega), es, eo]
  generalize rd l (at_ + (i : Int)) % 128 * 2 ^ (7 * i) = z at hm0 hm1 next ⊢
  refine EvKit.ite (fun h => ?_) (fun h => EvKit.itt (by omega) (EvKit.itt (by have := of_decide_eq_false (Bool.eq_false_iff.mpr h); omega) (EvKit.itt (by omega) (EvKit.ite (fun h2 => ?_) (fun h2 => ?_)))))
  · have h' := of_decide_eq_true h
    rw [if_pos (by omega)]; exact EvKit.ret rfl
  · have h' := of_decide_eq_false (Bool.eq_false_iff.mpr h)
    rw [if_neg (show ¬ ((l.length : Int) ≤ at_ + (i : Int)) by omega), if_pos h2]
    refine EvKit.ite (fun h3 => EvKit.ite (fun h4 => ?_) (fun h4 => EvKit.ite (fun h5 => ?_) (fun h5 => ?_))) (fun h3 => EvKit.ite (fun h5 => ?_) (fun h5 => ?_))
    · rw [if_pos ⟨h3, by omega⟩]; exact EvKit.ret rfl
    · rw [if_neg (by omega), if_pos h5]; exact EvKit.ret rfl
    · rw [if_neg (by omega), if_neg h5]; exact EvKit.ret rfl
    · rw [if_neg (by omega), if_pos h5]; exact EvKit.ret rfl
    · rw [if_neg (by omega), if_neg h5]; exact EvKit.ret rfl
  · have h' := of_decide_eq_false (Bool.eq_false_iff.mpr h)
    rw [if_neg (by omega), if_neg h2]; exact next
theorem spec_ReadUvarint.ev_l (l : List Int) (at_ : Int) (hl : l.length ≤ 200) (hb : ∀ x ∈ l, 0 ≤ x ∧ x < 256) (h0 : 0 ≤ at_) (h1 : at_ ≤ (l.length : Int)) : ∀ (d : Nat) (acc : Int), d ≤ 6 → 0 ≤ acc → acc < 2 ^ (7 * (6 - d)) → Ev (fun k => spec_ReadUvarint.l0 k l at_ acc ((6 - d : Nat) : Int)) (uvR l at_ d acc)
  | 0, acc, _, _, _ => by
    refine Ev.step (fun k => by rw [spec_ReadUvarint.l0]) ?_
    exact EvKit.itf (by omega) (EvKit.ret rfl)
  | d + 1, acc, hd, h2, h3 => by
    rw [show 6 - (d + 1) = 5 - d by omega] at h3 ⊢
    rw [uvR_step l at_ d (by omega)]
    have hr := rd_bd l hb (at_ + ((5 - d : Nat) : Int))
    have hp := pow_le35 (5 - d) (by omega)
    have hm0 : 0 ≤ rd l (at_ + ((5 - d : Nat) : Int)) % 128 * 2 ^ (7 * (5 - d)) := Int.mul_nonneg (by omega) (by omega)
    have hm1 : rd l (at_ + ((5 - d : Nat) : Int)) % 128 * 2 ^ (7 * (5 - d)) ≤ 127 * 2 ^ (7 * (5 - d)) := Int.mul_le_mul_of_nonneg_right (by omega) (by omega)
    have e := pow_next (5 - d)
    rw [show 5 - d + 1 = 6 - d by omega] at e
    have ih := spec_ReadUvarint.ev_l l at_ hl hb h0 h1 d (acc + rd l (at_ + ((5 - d : Nat) : Int)) % 128 * 2 ^ (7 * (5 - d))) (by omega) (by omega) (by omega)
    refine spec_ReadUvarint.step l at_ hl hb h0 h1 (5 - d) (by omega) acc h2 h3 _ ?_
    rw [show ((5 - d : Nat) : Int) + 1 = ((6 - d : Nat) : Int) by omega]
    exact ih
theorem spec_ReadUvarint.ev (l : List Int) (at_ : Int) (hl : l.length ≤ 200) (hb : ∀ x ∈ l, 0 ≤ x ∧ x < 256) (h0 : 0 ≤ at_) (h1 : at_ ≤ (l.length : Int)) : Ev (fun k => spec_ReadUvarint.f k l at_) (uv l at_) := by
  unfold spec_ReadUvarint.f
  exact spec_ReadUvarint.ev_l l at_ hl hb h0 h1 6 0 (by omega) (by omega) (by decide)
def dec2 (l : List Int) : List Int × Int × Bool :=
  if (uv l 0).2.2 = true then (if (uv l (uv l 0).2.1).2.2 = true then ([(uv l 0).1, (uv l (uv l 0).2.1).1], (uv l (uv l 0).2.1).2.1, true) else ([], 0, false)) else ([], 0, false)
theorem spec_DecodeInts.ev (l : List Int) (hl : l.length ≤ 200) (hb : ∀ x ∈ l, 0 ≤ x ∧ x < 256) : Ev (fun k => spec_DecodeInts.f k l 0 2) (dec2 l) := by
  have b1 := uvR_at l 0 (by omega) 6 0 (by omega)
  unfold spec_DecodeInts.f dec2
  refine EvKit.now (EvKit.bnd (spec_l1In.eq _ _ _) (EvKit.itt rfl (EvKit.bnd (spec_l1In.eq _ _ _) ?_)))
  rw [decide_eq_true (show (0 : Int) ≤ 0 ∧ 0 ≤ (l.length : Int) by omega)]
  refine Ev.step (fun k => by rw [spec_DecodeInts.j0]) ?_
  refine EvKit.itf (by decide) ?_
  refine Ev.step (fun k => by rw [spec_DecodeInts.l0]) ?_
  refine EvKit.itt (by decide) (Ev.bind (spec_ReadUvarint.ev l 0 hl hb (by omega) (by omega)) (EvKit.ite (fun h => ?_) (fun h => ?_)))
  · rw [if_pos h]
    refine EvKit.itt (by decide) ?_
    refine Ev.step (fun k => by rw [spec_DecodeInts.l0]) ?_
    refine EvKit.itt (by unfold wrap64; omega) (Ev.bind (spec_ReadUvarint.ev l _ hl hb b1.1 b1.2) (EvKit.ite (fun h2 => ?_) (fun h2 => ?_)))
    · rw [if_pos h2]
      refine EvKit.itt (by simp) ?_
      refine Ev.step (fun k => by rw [spec_DecodeInts.l0]) ?_
      exact EvKit.itf (by unfold wrap64; omega) (EvKit.ret rfl)
    · rw [if_neg h2]; exact EvKit.ret rfl
  · rw [if_neg h]; exact EvKit.ret rfl
theorem impl_DecodeInts.ev (l : List Int) (hl : l.length ≤ 200) (hb : ∀ x ∈ l, 0 ≤ x ∧ x < 256) : Ev (fun k => impl_DecodeInts.f k l 0 2) (dec2 l) := by
  have b1 := uvR_at l 0 (by omega) 6 0 (by omega)
  unfold impl_DecodeInts.f dec2
  refine EvKit.itf (by decide) (EvKit.itf (by decide) (EvKit.itf (by decide) ?_))
  refine Ev.step (fun k => by rw [impl_DecodeInts.j0]) ?_
  refine EvKit.itf (by simp) ?_
  refine Ev.step (fun k => by rw [impl_DecodeInts.l0]) ?_
  refine EvKit.itt (by decide) (Ev.bind (impl_ReadUvarint.ev l 0 hl hb (by omega) (by omega)) (EvKit.ite (fun h => ?_) (fun h => ?_)))
  · rw [if_pos h]
    refine EvKit.itt (by decide) ?_
    refine Ev.step (fun k => by rw [impl_DecodeInts.l0]) ?_
    refine EvKit.itt (by unfold wrap64; omega) (Ev.bind (impl_ReadUvarint.ev l _ hl hb b1.1 b1.2) (EvKit.ite (fun h2 => ?_) (fun h2 => ?_)))
    · rw [if_pos h2]
      refine EvKit.itt (by simp) ?_
      refine Ev.step (fun k => by rw [impl_DecodeInts.l0]) ?_
      exact EvKit.itf (by unfold wrap64; omega) (EvKit.ret rfl)
    · rw [if_neg h2]; exact EvKit.ret rfl
  · rw [if_neg h]; exact EvKit.ret rfl

theorem laws_szEpochBoxes.ev (e : Int) (l : List S159) (v : Int) (hl : l.length ≤ 9223372036854775807) (he : ∀ x ∈ l, x.f2.length ≤ 9223372036854775807) (h0 : 0 ≤ v) (h1 : v ≤ 1048576) :
    ∃ r, Ev (fun k => laws_szEpochBoxes.f k e l v) r ∧ (0 ≤ r → r = v - (l.length : Int) - (szBoxes l : Int)) ∧ r ≤ 1048576 := by
  obtain ⟨r, h2, h3, h4⟩ := laws_szBoxS.ev l v hl he h0 h1
  unfold laws_szEpochBoxes.f
  by_cases h : r < 0
  · exact ⟨-1, Ev.bind h2 (EvKit.itt h (EvKit.ret rfl)), fun h => by omega, by omega⟩
  · exact ⟨r, Ev.bind h2 (EvKit.itf h (EvKit.ret rfl)), h3, h4⟩
theorem laws_toEpochBoxes.ev (e : Int) (l : List S159) (hl : l.length ≤ 1048576) (he : ∀ x ∈ l, x.f2.length ≤ 1048576) : Ev (fun k => laws_toEpochBoxes.f k e l) (e, l.map toBoxC) := by
  unfold laws_toEpochBoxes.f
  exact Ev.bind (laws_toBoxS.ev l hl he) (EvKit.ret rfl)
theorem laws_eqEpochBoxes.ev (e : Int) (l : List S161) (hl : l.length ≤ 9223372036854775806) (he : ∀ x ∈ l, x.f2.length ≤ 9223372036854775806) : Ev (fun k => laws_eqEpochBoxes.f k e l e l) true := by
  unfold laws_eqEpochBoxes.f
  exact EvKit.itt rfl (Ev.bind (laws_eqBoxS.ev l hl he) (EvKit.itt rfl (EvKit.ret rfl)))

end Go.Proofs.Ytkmndimmglghoaa.QFnExactOpenEpochBoxes
