/- What the printed functions of FnExactOpenVault come to, in plain terms; no condition beyond those in each theorem. -/
import Derived.Test.YtaajgknmclpbiaaRFnExactOpenVault
set_option linter.unusedVariables false
set_option linter.unusedSimpArgs false
namespace Go.Proofs.Ytaajgknmclpbiaa.QFnExactOpenVault
open Go.RowKit Go.Proofs.Ytaajgknmclpbiaa.PFnExactOpenVault Go.Proofs.YtaajgknmclpbiaaW.PrintWords Go.Proofs.YtaajgknmclpbiaaW.PrintLast Go.Proofs.Ytaajgknmclpbiaa.RFnExactOpenVault
/-! ### evkit: steps for printed functions -/
namespace EvKit
theorem w64 {n : Int} (h0 : -9223372036854775808 ≤ n) (h1 : n ≤ 9223372036854775807) : wrap64 n = n := by unfold wrap64; omega
section
variable {α β : Type}
theorem ret {x r : α} (h : x = r) : Ev (fun _ => some x) r := ⟨0, fun _ _ => by rw [h]⟩
theorem eqv {x : Option α} {r : α} (h : x = some r) : Ev (fun _ => x) r := ⟨0, fun _ _ => h⟩
theorem itt {c : Prop} [Decidable c] {a b : Nat → Option α} {r : α} (hc : c) (h : Ev a r) : Ev (fun k => if c then a k else b k) r := Ev.congr (fun _ => if_pos hc) h
theorem itf {c : Prop} [Decidable c] {a b : Nat → Option α} {r : α} (hc : ¬ c) (h : Ev b r) : Ev (fun k => if c then a k else b k) r := Ev.congr (fun _ => if_neg hc) h
theorem ite {c : Prop} [Decidable c] {a b : Nat → Option α} {r : α} (h : c → Ev a r) (h' : ¬ c → Ev b r) : Ev (fun k => if c then a k else b k) r := by
  by_cases hc : c
  · exact itt hc (h hc)
  · exact itf hc (h' hc)
theorem now {x : α} {f : Nat → α → Option β} {r : β} (h : Ev (fun n => f n x) r) : Ev (fun n => (some x).bind (f n)) r := h
theorem bnd {x : Option α} {a : α} {f : Nat → α → Option β} {r : β} (hx : x = some a) (h : Ev (fun n => f n a) r) : Ev (fun n => x.bind (f n)) r := Ev.bind (eqv hx) h
theorem ev_to {g : Nat → Option α} {r q : α} (h : Ev g r) (e : r = q) : Ev g q := e ▸ h
end
end EvKit

/-! ### arith: remainders as the program takes them -/
def modI (p q : Int) : Int := if 1 ≤ q ∧ q ≤ 1000000000000 then p % q else 0
theorem modI_pos {q : Int} (p : Int) (h : 1 ≤ q) (h' : q ≤ 1000000000000) : modI p q = p % q := if_pos ⟨h, h'⟩
theorem tmod_lo (p q : Int) (h : 1 ≤ q) : -q < Int.tmod p q := Int.lt_tmod_of_pos p (by omega)
theorem tmod_hi (p q : Int) (h : 1 ≤ q) : Int.tmod p q < q := Int.tmod_lt_of_pos p (by omega)
theorem tmod_emod (p q : Int) : Int.tmod p q % q = p % q := by
  rw [Int.tmod_def, Int.sub_mul_emod_self_left]
theorem tmod_neg_case (p q : Int) (h : 1 ≤ q) (hn : Int.tmod p q < 0) : Int.tmod p q + q = p % q := by
  have h1 := tmod_lo p q h
  rw [← tmod_emod p q, ← Int.add_emod_right, Int.emod_eq_of_lt (by omega) (by omega)]
theorem tmod_pos_case (p q : Int) (h : 1 ≤ q) (hn : 0 ≤ Int.tmod p q) : Int.tmod p q = p % q := by
  have h1 := tmod_hi p q h
  rw [← tmod_emod p q, Int.emod_eq_of_lt hn h1]
theorem tmod_twice (p q : Int) (h : 1 ≤ q) : Int.tmod (Int.tmod p q + q) q = p % q := by
  have h1 := tmod_lo p q h
  rw [Int.tmod_eq_emod_of_nonneg (by omega), Int.add_emod_right, tmod_emod]
theorem tmod_nn {p : Int} (q : Int) (h : 0 ≤ p) : Int.tmod p q = p % q := Int.tmod_eq_emod_of_nonneg h

/-! ### hashc: the hash, as a function of a list -/
def hashStep (h v : Int) : Int := (h * 1000003 + v % 2147483647 + 13) % 2147483647
def hashL (l : List Int) : Int := l.foldl hashStep 11
def keyed (s : Int) (l : List Int) : Int := hashL (s :: (l ++ [s]))
theorem hashStep_bd (h v : Int) : 0 ≤ hashStep h v ∧ hashStep h v < 2147483647 := by unfold hashStep; omega
theorem foldl_bd : ∀ (l : List Int) (h : Int), 0 ≤ h → h < 2147483647 → 0 ≤ l.foldl hashStep h ∧ l.foldl hashStep h < 2147483647
  | [], _, h0, h1 => ⟨h0, h1⟩
  | v :: l, h, _, _ => foldl_bd l _ (hashStep_bd h v).1 (hashStep_bd h v).2
theorem hashL_bd (l : List Int) : 0 ≤ hashL l ∧ hashL l < 2147483647 := foldl_bd l 11 (by omega) (by omega)
theorem keyed_bd (s : Int) (l : List Int) : 0 ≤ keyed s l ∧ keyed s l < 2147483647 := hashL_bd _
theorem hashStep_w (h v : Int) (h0 : 0 ≤ h) (h1 : h < 2147483647) : Int.tmod (wrap64 (wrap64 (wrap64 (h * 1000003) + v % 2147483647) + 13)) 2147483647 = hashStep h v := by
  rw [EvKit.w64 (n := h * 1000003) (by omega) (by omega), EvKit.w64 (n := h * 1000003 + v % 2147483647) (by omega) (by omega), EvKit.w64 (by omega) (by omega), Int.tmod_eq_emod_of_nonneg (by omega)]
  rfl
theorem rd_drop (l : List Int) (i : Nat) (h : i < l.length) : l.drop i = rd l (i : Int) :: l.drop (i + 1) := by
  rw [List.drop_eq_getElem_cons h]
  simp [rd, List.getD, List.getElem?_eq_getElem h]

/-! ### spec.Mod, spec.Hash, spec.KeyedHash -/
theorem spec_l1In.eq (x a b : Int) : spec_l1In.f x a b = some (decide (a ≤ x ∧ x ≤ b)) := by
  unfold spec_l1In.f
  by_cases h : x ≥ a
  · rw [if_pos h]; simp [show a ≤ x from h]
  · rw [if_neg h]; simp [show ¬ a ≤ x from h]
theorem spec_Mod.eq (p q : Int) : spec_Mod.f p q = some (modI p q) := by
  unfold spec_Mod.f modI
  rw [spec_l1In.eq]
  simp only [Option.bind_some, decide_eq_true_eq]
  by_cases h : 1 ≤ q ∧ q ≤ 1000000000000
  · have h1 := tmod_lo p q h.1
    have h2 := tmod_hi p q h.1
    rw [if_pos h, if_pos h, if_neg (by omega), EvKit.w64 (by omega) (by omega), tmod_twice p q h.1]
  · rw [if_neg h, if_neg h]
theorem spec_Hash.ev_l (l : List Int) (hl : l.length ≤ 9223372036854775806) : ∀ (d i : Nat) (h : Int), l.length - i = d → i ≤ l.length → 0 ≤ h → h < 2147483647 →
    Ev (fun k => spec_Hash.l0 k l h (i : Int)) ((l.drop i).foldl hashStep h) := by
  intro d
  induction d with
  | zero =>
    intro i h hd hi h0 h1
    refine Ev.step (fun k => by rw [spec_Hash.l0]) ?_
    refine EvKit.itf (by omega) (EvKit.ret ?_)
    rw [List.drop_of_length_le (by omega)]
    rfl
  | succ d ih =>
    intro i h hd hi h0 h1
    refine Ev.step (fun k => by rw [spec_Hash.l0]) ?_
    refine EvKit.itt (by omega) (EvKit.itt (by omega) (EvKit.bnd (spec_Mod.eq _ _) ?_))
    rw [modI_pos _ (by omega) (by omega), hashStep_w _ _ h0 h1, EvKit.w64 (n := (i : Int) + 1) (by omega) (by omega), rd_drop l i (by omega)]
    exact ih (i + 1) _ (by omega) (by omega) (hashStep_bd _ _).1 (hashStep_bd _ _).2
theorem spec_Hash.ev (l : List Int) (hl : l.length ≤ 9223372036854775806) : Ev (fun k => spec_Hash.f k l) (hashL l) :=
  spec_Hash.ev_l l hl _ 0 11 rfl (by omega) (by omega) (by omega)

theorem spec_KeyedHash.ev (s : Int) (l : List Int) (hl : l.length ≤ 17592186044410) : Ev (fun k => spec_KeyedHash.f k s l) (keyed s l) := by
  unfold spec_KeyedHash.f
  refine EvKit.now (EvKit.itt (by simp only [List.length_cons, List.length_nil]; omega) (EvKit.now (EvKit.itt (by simp only [List.length_cons, List.length_nil, List.length_append]; omega) (Ev.bind (spec_Hash.ev _ (by simp only [List.length_cons, List.length_nil, List.length_append]; omega)) (EvKit.ret ?_)))))
  simp [keyed]

/-! ### impl.Mod, impl.Hash -/
theorem impl_Mod.ev (p q : Int) : Ev (fun k => impl_Mod.f k p q) (modI p q) := by
  unfold impl_Mod.f modI
  by_cases h : 1 ≤ q ∧ q ≤ 1000000000000
  · have h1 := tmod_lo p q h.1
    have h2 := tmod_hi p q h.1
    rw [if_pos h]
    refine EvKit.itf (by omega) (Ev.step (fun k => by rw [impl_Mod.j0]) (EvKit.itf (by simp; omega) (EvKit.itf (by omega) (EvKit.ite (fun hn => EvKit.ret ?_) (fun hn => EvKit.ret ?_)))))
    · rw [EvKit.w64 (by omega) (by omega), tmod_neg_case p q h.1 hn]
    · rw [tmod_pos_case p q h.1 (by omega)]
  · rw [if_neg h]
    refine EvKit.ite (fun hq => ?_) (fun hq => ?_)
    · refine Ev.step (fun k => by rw [impl_Mod.j0]) ?_
      exact EvKit.itt rfl (EvKit.ret rfl)
    · refine Ev.step (fun k => by rw [impl_Mod.j0]) ?_
      exact EvKit.itt (by simp; omega) (EvKit.ret rfl)
theorem impl_Hash.ev_l (l : List Int) (hl : l.length ≤ 9223372036854775806) : ∀ (d i : Nat) (h : Int), l.length - i = d → i ≤ l.length → 0 ≤ h → h < 2147483647 →
    Ev (fun k => impl_Hash.l0 k h l (l.length : Int) (i : Int)) ((l.drop i).foldl hashStep h) := by
  intro d
  induction d with
  | zero =>
    intro i h hd hi h0 h1
    refine Ev.step (fun k => by rw [impl_Hash.l0]) ?_
    refine EvKit.itf (by omega) (EvKit.ret ?_)
    rw [List.drop_of_length_le (by omega)]
    rfl
  | succ d ih =>
    intro i h hd hi h0 h1
    refine Ev.step (fun k => by rw [impl_Hash.l0]) ?_
    refine EvKit.itt (by omega) (EvKit.itt (by omega) (EvKit.itt (by omega) (Ev.bind (impl_Mod.ev _ _) ?_)))
    rw [modI_pos _ (by omega) (by omega), hashStep_w _ _ h0 h1, EvKit.w64 (n := (i : Int) + 1) (by omega) (by omega), rd_drop l i (by omega)]
    exact ih (i + 1) _ (by omega) (by omega) (hashStep_bd _ _).1 (hashStep_bd _ _).2
theorem impl_Hash.ev (l : List Int) (hl : l.length ≤ 9223372036854775806) : Ev (fun k => impl_Hash.f k l) (hashL l) :=
  impl_Hash.ev_l l hl _ 0 11 rfl (by omega) (by omega) (by omega)

/-! ### impl.joined -/
theorem rdL_drop (L : List (List Int)) (i : Nat) (h : i < L.length) : L.drop i = rd_L1 L (i : Int) :: L.drop (i + 1) := by
  rw [List.drop_eq_getElem_cons h]
  simp [rd_L1, List.getD, List.getElem?_eq_getElem h]
def lenSum : List (List Int) → Nat
  | [] => 0
  | l :: L => l.length + lenSum L
theorem impl_joined.ev_l (L : List (List Int)) (hL : L.length ≤ 9223372036854775806) : ∀ (d i : Nat) (acc : List Int), L.length - i = d → i ≤ L.length → acc.length + lenSum (L.drop i) < 17592186044416 →
    Ev (fun k => impl_joined.l0 k acc L (L.length : Int) (i : Int)) (acc ++ (L.drop i).flatten) := by
  intro d
  induction d with
  | zero =>
    intro i acc hd hi hs
    refine Ev.step (fun k => by rw [impl_joined.l0]) ?_
    refine EvKit.itf (by omega) (EvKit.ret ?_)
    rw [List.drop_of_length_le (by omega)]
    simp
  | succ d ih =>
    intro i acc hd hi hs
    have hr := rdL_drop L i (by omega)
    rw [hr] at hs ⊢
    simp only [lenSum] at hs
    refine Ev.step (fun k => by rw [impl_joined.l0]) ?_
    refine EvKit.itt (by omega) (EvKit.itt (by omega) (EvKit.itt (by omega) (EvKit.itt (by omega) ?_)))
    rw [EvKit.w64 (n := (i : Int) + 1) (by omega) (by omega)]
    refine EvKit.ev_to (ih (i + 1) _ (by omega) (by omega) (by simp only [List.length_append]; omega)) ?_
    simp
theorem impl_joined.ev (a : List Int) (L : List (List Int)) (hL : L.length ≤ 9223372036854775806) (hs : a.length + lenSum L < 17592186044416) : Ev (fun k => impl_joined.f k a L) (a ++ L.flatten) := by
  unfold impl_joined.f
  refine EvKit.now (EvKit.itt (by simp only [List.length_nil]; omega) (EvKit.ev_to (impl_joined.ev_l L hL _ 0 _ rfl (by omega) (by simpa using hs)) ?_))
  simp

theorem impl_KeyedHash.ev (s : Int) (l : List Int) (hl : l.length ≤ 17592186044410) : Ev (fun k => impl_KeyedHash.f k s l) (keyed s l) := by
  unfold impl_KeyedHash.f
  refine Ev.bind (impl_joined.ev [s] [l, [s]] (by simp) (by simp only [lenSum, List.length_cons, List.length_nil]; omega)) (Ev.bind (impl_Hash.ev _ (by simp; omega)) (EvKit.ret ?_))
  simp [keyed]

def deriveK (s : Int) (l : List Int) : Int := if keyed s (151 :: l) = 0 then 1 else keyed s (151 :: l)
theorem deriveK_bd (s : Int) (l : List Int) : 1 ≤ deriveK s l ∧ deriveK s l < 2147483647 := by
  have := keyed_bd s (151 :: l)
  unfold deriveK
  split <;> omega
theorem spec_Max.eq (a b : Int) : spec_Max.f a b = some (max a b) := by unfold spec_Max.f; split <;> congr 1 <;> omega
theorem spec_DeriveKey.ev (s : Int) (l : List Int) (hl : l.length ≤ 17592186044400) : Ev (fun k => spec_DeriveKey.f k s l) (deriveK s l) := by
  unfold spec_DeriveKey.f
  refine EvKit.now (EvKit.itt (by simp only [List.length_cons, List.length_nil]; omega) (Ev.bind (spec_KeyedHash.ev _ _ (by simp; omega)) (EvKit.bnd (spec_Max.eq _ _) (EvKit.ret ?_))))
  have h := keyed_bd s (151 :: l)
  show max 1 (keyed s (151 :: l)) = deriveK s l
  unfold deriveK
  split <;> omega
theorem impl_orOne.eq (a : Int) : impl_orOne.f a = some (if a = 0 then 1 else a) := by unfold impl_orOne.f; split <;> rfl
theorem impl_DeriveKey.ev (s : Int) (l : List Int) (hl : l.length ≤ 17592186044400) : Ev (fun k => impl_DeriveKey.f k s l) (deriveK s l) := by
  unfold impl_DeriveKey.f
  refine Ev.bind (impl_joined.ev [151] [l] (by simp) (by simp only [lenSum, List.length_cons, List.length_nil]; omega)) (Ev.bind (impl_KeyedHash.ev _ _ (by simp; omega)) (EvKit.bnd (impl_orOne.eq _) (EvKit.ret ?_)))
  simp [deriveK]

theorem impl_InRange.eq (x a b : Int) : impl_InRange.f x a b = some (decide (a ≤ x ∧ x ≤ b)) := by
  unfold impl_InRange.f
  by_cases h : a ≤ x
  · rw [if_pos h]; simp [h]
  · rw [if_neg h]; simp [h]

def maskK (key mask : Int) : Int := if 0 ≤ key ∧ key ≤ 2147483647 then Go.bits .xor .i64 key (deriveK mask [251]) else 0
theorem spec_MaskKey.ev (a b : Int) : Ev (fun k => spec_MaskKey.f k a b) (maskK a b) := by
  unfold spec_MaskKey.f maskK
  refine EvKit.bnd (spec_l1In.eq _ _ _) (EvKit.ite (fun h => ?_) (fun h => ?_))
  · rw [if_pos (by simpa using h)]
    exact Ev.bind (spec_DeriveKey.ev _ _ (by simp)) (EvKit.ret rfl)
  · rw [if_neg (by simpa using h)]
    exact EvKit.ret rfl
theorem impl_MaskKey.ev (a b : Int) : Ev (fun k => impl_MaskKey.f k a b) (maskK a b) := by
  unfold impl_MaskKey.f maskK
  refine EvKit.bnd (impl_InRange.eq _ _ _) (EvKit.ite (fun h => ?_) (fun h => ?_))
  · rw [if_pos (by simpa using h)]
    exact Ev.bind (impl_DeriveKey.ev _ _ (by simp)) (EvKit.ret rfl)
  · rw [if_neg (by simpa using h)]
    exact EvKit.ret rfl

theorem spec_VaultCheck.ev (o s : Int) : Ev (fun k => spec_VaultCheck.f k o s) (keyed o [257, s]) := by
  unfold spec_VaultCheck.f
  exact Ev.bind (spec_KeyedHash.ev _ _ (by simp)) (EvKit.ret rfl)
theorem impl_VaultCheck.ev (o s : Int) : Ev (fun k => impl_VaultCheck.f k o s) (keyed o [257, s]) := by
  unfold impl_VaultCheck.f
  exact Ev.bind (impl_KeyedHash.ev _ _ (by simp)) (EvKit.ret rfl)

def openV (a b c d o : Int) : Int × Bool := if keyed o [257, a] = c then (maskK d o, true) else (0, false)
theorem spec_OpenVault.ev (a b c d o : Int) : Ev (fun k => spec_OpenVault.f k a b c d o) (openV a b c d o) := by
  unfold spec_OpenVault.f openV
  refine Ev.bind (spec_VaultCheck.ev _ _) (EvKit.ite (fun h => ?_) (fun h => ?_))
  · rw [if_pos h]
    exact Ev.bind (spec_MaskKey.ev _ _) (EvKit.ret rfl)
  · rw [if_neg h]
    exact EvKit.ret rfl
theorem impl_OpenVault.ev (a b c d o : Int) : Ev (fun k => impl_OpenVault.f k a b c d o) (openV a b c d o) := by
  unfold impl_OpenVault.f openV
  refine Ev.bind (impl_VaultCheck.ev _ _) (EvKit.ite (fun h => ?_) (fun h => ?_))
  · rw [if_pos h]
    exact Ev.bind (impl_MaskKey.ev _ _) (EvKit.ret rfl)
  · rw [if_neg h]
    exact EvKit.ret rfl

end Go.Proofs.Ytaajgknmclpbiaa.QFnExactOpenVault
