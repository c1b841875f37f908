/- What the printed functions of FnExactMakeVault come to, in plain terms; no condition beyond those in each theorem. -/
import Derived.Test.YtpgmghghpliapaaRFnExactMakeVault
set_option linter.unusedVariables false
set_option linter.unusedSimpArgs false
namespace Go.Proofs.Ytpgmghghpliapaa.QFnExactMakeVault
open Go.RowKit Go.Proofs.Ytpgmghghpliapaa.PFnExactMakeVault Go.Proofs.YtpgmghghpliapaaW.PrintWords Go.Proofs.YtpgmghghpliapaaW.PrintLast Go.Proofs.Ytpgmghghpliapaa.RFnExactMakeVault
/-! ### evkit: steps for printed functions -/
namespace EvKit
theorem w64 {n : Int} (h0 : -9223372036854775808 ≤ n) (h1 : n ≤ 9223372036854775807) : wrap64 n = n := by unfold wrap64; omega
section
variable {α β : Type}
theorem ret {x r : α} (h : x = r) : Ev (fun _ => some x) r := ⟨0, fun _ _ => by rw [h]⟩
theorem eqv {x : Option α} {r : α} (h : x = some r) : Ev (fun _ => x) r := ⟨0, fun _ _ => h⟩
theorem itt {c : Prop} [Decidable c] {a b : Nat → Option α} {r : α} (hc : c) (h : Ev a r) : Ev (fun k => if c then a k else b k) r := Ev.congr (fun _ => if_pos hc) h
theorem itf {c : Prop} [Decidable c] {a b : Nat → Option α} {r : α} (hc : ¬ c) (h : Ev b r) : Ev (fun k => if c then a k else b k) r := Ev.congr (fun _ => if_neg hc) h
theorem ite {c : Prop} [Decidable c] {a b : Nat → Option α} {r : α} (h : c → Ev a r) (h' : ¬ c → Ev b r) : Ev (fun k => if c then a k else b k) r := by
  by_cases hc : c
  · exact itt hc (h hc)
  · exact itf hc (h' hc)
theorem now {x : α} {f : Nat → α → Option β} {r : β} (h : Ev (fun n => f n x) r) : Ev (fun n => (some x).bind (f n)) r := h
theorem bnd {x : Option α} {a : α} {f : Nat → α → Option β} {r : β} (hx : x = some a) (h : Ev (fun n => f n a) r) : Ev (fun n => x.bind (f n)) r := Ev.bind (eqv hx) h
theorem ev_to {g : Nat → Option α} {r q : α} (h : Ev g r) (e : r = q) : Ev g q := e ▸ h
end
end EvKit

theorem spec_l1In.eq (x a b : Int) : spec_l1In.f x a b = some (decide (a ≤ x ∧ x ≤ b)) := by
  unfold spec_l1In.f
  by_cases h : x ≥ a
  · rw [if_pos h]; congr 1; exact decide_eq_decide.mpr ⟨fun z => ⟨h, z⟩, fun z => z.2⟩
  · rw [if_neg h]; congr 1; exact (decide_eq_false (by omega)).symm

/-! ### arith: remainders as the program takes them -/
def modI (p q : Int) : Int := if 1 ≤ q ∧ q ≤ 1000000000000 then p % q else 0
theorem modI_pos {q : Int} (p : Int) (h : 1 ≤ q) (h' : q ≤ 1000000000000) : modI p q = p % q := if_pos ⟨h, h'⟩
theorem tmod_lo (p q : Int) (h : 1 ≤ q) : -q < Int.tmod p q := Int.lt_tmod_of_pos p (by omega)
theorem tmod_hi (p q : Int) (h : 1 ≤ q) : Int.tmod p q < q := Int.tmod_lt_of_pos p (by omega)
theorem tmod_emod (p q : Int) : Int.tmod p q % q = p % q := by
  rw [Int.tmod_def, Int.sub_mul_emod_self_left]
theorem tmod_neg_case (p q : Int) (h : 1 ≤ q) (hn : Int.tmod p q < 0) : Int.tmod p q + q = p % q := by
  have h1 := tmod_lo p q h
  rw [← tmod_emod p q, ← Int.add_emod_right, Int.emod_eq_of_lt (by omega) (by omega)]
theorem tmod_pos_case (p q : Int) (h : 1 ≤ q) (hn : 0 ≤ Int.tmod p q) : Int.tmod p q = p % q := by
  have h1 := tmod_hi p q h
  rw [← tmod_emod p q, Int.emod_eq_of_lt hn h1]
theorem tmod_twice (p q : Int) (h : 1 ≤ q) : Int.tmod (Int.tmod p q + q) q = p % q := by
  have h1 := tmod_lo p q h
  rw [Int.tmod_eq_emod_of_nonneg (by omega), Int.add_emod_right, tmod_emod]
theorem tmod_nn {p : Int} (q : Int) (h : 0 ≤ p) : Int.tmod p q = p % q := Int.tmod_eq_emod_of_nonneg h

theorem spec_Mod.eq (p q : Int) : spec_Mod.f p q = some (modI p q) := by
  unfold spec_Mod.f modI
  rw [spec_l1In.eq]
  simp only [Option.bind_some, decide_eq_true_eq]
  by_cases h : 1 ≤ q ∧ q ≤ 1000000000000
  · have h1 := tmod_lo p q h.1
    have h2 := tmod_hi p q h.1
    rw [if_pos h, if_pos h, if_neg (by omega), EvKit.w64 (by omega) (by omega), tmod_twice p q h.1]
  · rw [if_neg h, if_neg h]

theorem impl_Mod.ev (p q : Int) : Ev (fun k => impl_Mod.f k p q) (modI p q) := by
  unfold impl_Mod.f modI
  by_cases h : 1 ≤ q ∧ q ≤ 1000000000000
  · have h1 := tmod_lo p q h.1
    have h2 := tmod_hi p q h.1
    rw [if_pos h]
    refine EvKit.itf (by omega) (Ev.step (fun k => by rw [impl_Mod.j0]) (EvKit.itf (by simp; omega) (EvKit.itf (by omega) (EvKit.ite (fun hn => EvKit.ret ?_) (fun hn => EvKit.ret ?_)))))
    · rw [EvKit.w64 (by omega) (by omega), tmod_neg_case p q h.1 hn]
    · rw [tmod_pos_case p q h.1 (by omega)]
  · rw [if_neg h]
    refine EvKit.ite (fun hq => ?_) (fun hq => ?_)
    · refine Ev.step (fun k => by rw [impl_Mod.j0]) ?_
      exact EvKit.itt rfl (EvKit.ret rfl)
    · refine Ev.step (fun k => by rw [impl_Mod.j0]) ?_
      exact EvKit.itt (by simp; omega) (EvKit.ret rfl)

theorem impl_InRange.eq (x a b : Int) : impl_InRange.f x a b = some (decide (a ≤ x ∧ x ≤ b)) := by
  unfold impl_InRange.f
  by_cases h : a ≤ x
  · rw [if_pos h]; simp [h]
  · rw [if_neg h]; simp [h]

def markV (epoch guesses : Int) : Int := wrap64 (wrap64 (epoch * 1000) + guesses)
theorem spec_StartHost.eq (a b c d e : Int) : spec_StartHost.f a b c d e = some (a, b, c, d, e, [], markV c d) := rfl
theorem impl_StartHost.eq (a b c d e : Int) : impl_StartHost.f a b c d e = some (a, b, c, d, e, [], markV c d) := rfl

/-! ### power -/
def gpowL (m : Int) : Nat → Int → Int → Int → Int
  | 0, _, _, r => r
  | n + 1, b, e, r => if 0 < e then gpowL m n (b * b % m) (e / 2) (if e % 2 = 1 then r * b % m else r) else r
theorem gpow_sq {m b : Int} (hm : 1 < m) (hm2 : m ≤ 3000000000) (h0 : 0 ≤ b) (h1 : b < m) (c : Int) (hc0 : 0 ≤ c) (hc1 : c < m) : wrap64 (c * b) = c * b ∧ Int.tmod (c * b) m = c * b % m ∧ 0 ≤ c * b % m ∧ c * b % m < m := by
  have h2 : 0 ≤ c * b := Int.mul_nonneg hc0 h0
  have h3 : c * b ≤ m * m := Int.mul_le_mul (by omega) (by omega) h0 (by omega)
  have h4 : m * m ≤ 3000000000 * 3000000000 := Int.mul_le_mul (by omega) (by omega) (by omega) (by omega)
  exact ⟨EvKit.w64 (by omega) (by omega), Int.tmod_eq_emod_of_nonneg h2, Int.emod_nonneg _ (by omega), Int.emod_lt_of_pos _ (by omega)⟩
theorem impl_power.ev_l (m : Int) (hm : 1 < m) (hm2 : m ≤ 3000000000) : ∀ (n : Nat) (b e r : Int), 0 ≤ b → b < m → 0 ≤ r → r < m → e < 2 ^ n → e ≤ 9223372036854775807 → Ev (fun k => impl_power.l0 k b e m r) (gpowL m n b e r)
  | 0, b, e, r, _, _, _, _, he, _ => by
    refine Ev.step (fun k => by rw [impl_power.l0]) ?_
    exact EvKit.itf (by simp at he; omega) (EvKit.ret rfl)
  | n + 1, b, e, r, hb0, hb1, hr0, hr1, he, he2 => by
    refine Ev.step (fun k => by rw [impl_power.l0]) ?_
    unfold gpowL
    by_cases c : 0 < e
    · rw [if_pos c]
      have hb := gpow_sq hm hm2 hb0 hb1 b hb0 hb1
      have hr := gpow_sq hm hm2 hb0 hb1 r hr0 hr1
      have e2 : Int.tmod e 2 = e % 2 := Int.tmod_eq_emod_of_nonneg (by omega)
      have e3 : wrap64 (Int.tdiv e 2) = e / 2 := by rw [Int.tdiv_eq_ediv_of_nonneg (by omega), EvKit.w64 (by omega) (by omega)]
      have e4 : e / 2 < 2 ^ n := by have : (2 : Int) ^ (n + 1) = 2 ^ n * 2 := Int.pow_succ ..; omega
      rw [e2, e3, hb.1, hb.2.1, hr.1, hr.2.1]
      refine EvKit.itt c (EvKit.ite (fun h => ?_) (fun h => ?_))
      · rw [if_pos h]
        exact EvKit.itf (by omega) (impl_power.ev_l m hm hm2 n _ _ _ hb.2.2.1 hb.2.2.2 hr.2.2.1 hr.2.2.2 e4 (by omega))
      · rw [if_neg h]
        exact EvKit.itf (by omega) (impl_power.ev_l m hm hm2 n _ _ _ hb.2.2.1 hb.2.2.2 hr0 hr1 e4 (by omega))
    · rw [if_neg c]
      exact EvKit.itf (by omega) (EvKit.ret rfl)
theorem impl_power.ev (b e m : Int) (n : Nat) (hm : 1 < m) (hm2 : m ≤ 3000000000) (hb : 0 ≤ b) (he : e < 2 ^ n) (he2 : e ≤ 9223372036854775807) : Ev (fun k => impl_power.f k b e m) (gpowL m n (b % m) e 1) := by
  unfold impl_power.f
  refine EvKit.itf (by omega) ?_
  rw [Int.tmod_eq_emod_of_nonneg hb, show (1 : Int) % m = 1 from Int.emod_eq_of_lt (by omega) hm]
  exact impl_power.ev_l m hm hm2 n _ _ _ (Int.emod_nonneg _ (by omega)) (Int.emod_lt_of_pos _ (by omega)) (by omega) (by omega) he he2

/-! ### group: powers in the small group -/
theorem and_one (x : Int) (h0 : 0 ≤ x) (h1 : x ≤ 9223372036854775807) : Go.bits .and .i64 x 1 = x % 2 :=
  Go.bits_mask .i64 63 (by decide) (fun n a b => by rw [Go.IntKind.wrap_i64]; omega) 1 (by decide) x h0 (by omega)
theorem spec_l4Pow.ev_l : ∀ (n : Nat) (b e r : Int), 0 ≤ b → b < 2039 → 0 ≤ r → r < 2039 → e < 2 ^ n → e ≤ 9223372036854775807 → Ev (fun k => spec_l4Pow.l0 k b e r) (gpowL 2039 n b e r)
  | 0, b, e, r, _, _, _, _, he, _ => by
    refine Ev.step (fun k => by rw [spec_l4Pow.l0]) ?_
    exact EvKit.itf (by simp at he; omega) (EvKit.ret rfl)
  | n + 1, b, e, r, hb0, hb1, hr0, hr1, he, he2 => by
    refine Ev.step (fun k => by rw [spec_l4Pow.l0]) ?_
    unfold gpowL
    by_cases c : 0 < e
    · rw [if_pos c]
      have hb := gpow_sq (m := 2039) (by omega) (by omega) hb0 hb1 b hb0 hb1
      have hr := gpow_sq (m := 2039) (by omega) (by omega) hb0 hb1 r hr0 hr1
      have e4 : e / 2 < 2 ^ n := by have : (2 : Int) ^ (n + 1) = 2 ^ n * 2 := Int.pow_succ ..; omega
      rw [and_one e (by omega) he2, hb.1, hb.2.1, hr.1, hr.2.1]
      refine EvKit.itt c (EvKit.ite (fun h => ?_) (fun h => ?_))
      · rw [if_pos h]
        exact spec_l4Pow.ev_l n _ _ _ hb.2.2.1 hb.2.2.2 hr.2.2.1 hr.2.2.2 e4 (by omega)
      · rw [if_neg h]
        exact spec_l4Pow.ev_l n _ _ _ hb.2.2.1 hb.2.2.2 hr0 hr1 e4 (by omega)
    · rw [if_neg c]
      exact EvKit.itf (by omega) (EvKit.ret rfl)
def gpow (b e : Int) : Int := gpowL 2039 11 b e 1
theorem spec_l4Pow.ev (b e : Int) (h0 : 0 ≤ b) (h1 : b < 2039) (he : e < 2048) : Ev (fun k => spec_l4Pow.f k b e) (gpow b e) := by
  unfold spec_l4Pow.f
  exact spec_l4Pow.ev_l 11 b e 1 h0 h1 (by omega) (by omega) he (by omega)
theorem impl_power.evG (b e : Int) (h0 : 0 ≤ b) (h1 : b < 2039) (he : e < 2048) : Ev (fun k => impl_power.f k b e 2039) (gpow b e) := by
  have h := impl_power.ev b e 2039 11 (by omega) (by omega) h0 he (by omega)
  rw [Int.emod_eq_of_lt h0 h1] at h
  exact h
def isGroup (x : Int) : Bool := if decide (1 ≤ x ∧ x ≤ 2038) = true then gpow x 1019 == 1 else false
theorem isGroup_in {x : Int} (h : isGroup x = true) : 1 ≤ x ∧ x ≤ 2038 := by
  unfold isGroup at h
  split at h
  · rename_i c; exact of_decide_eq_true c
  · cases h
theorem spec_IsGroupElement.ev (x : Int) : Ev (fun k => spec_IsGroupElement.f k x) (isGroup x) := by
  unfold spec_IsGroupElement.f isGroup
  refine EvKit.bnd (spec_l1In.eq _ _ _) (EvKit.ite (fun h => ?_) (fun h => ?_))
  · rw [if_pos h]
    have h' := of_decide_eq_true h
    exact Ev.bind (spec_l4Pow.ev x 1019 (by omega) (by omega) (by omega)) (EvKit.ret rfl)
  · rw [if_neg h]; exact EvKit.ret rfl
theorem impl_IsGroupElement.ev (x : Int) : Ev (fun k => impl_IsGroupElement.f k x) (isGroup x) := by
  unfold impl_IsGroupElement.f isGroup
  refine EvKit.bnd (impl_InRange.eq _ _ _) (EvKit.ite (fun h => ?_) (fun h => ?_))
  · rw [if_pos h]
    have h' := of_decide_eq_true h
    exact Ev.bind (impl_power.evG x 1019 (by omega) (by omega) (by omega)) (EvKit.ret rfl)
  · rw [if_neg h]; exact EvKit.ret rfl
def powGroup (b e : Int) : Int := if isGroup b = true then gpow b (e % 1019) else 0
theorem spec_PowGroup.ev (b e : Int) : Ev (fun k => spec_PowGroup.f k b e) (powGroup b e) := by
  unfold spec_PowGroup.f powGroup
  refine Ev.bind (spec_IsGroupElement.ev b) (EvKit.ite (fun h => ?_) (fun h => ?_))
  · rw [if_pos h]
    have h' := isGroup_in h
    refine EvKit.bnd (spec_Mod.eq _ _) ?_
    rw [modI_pos _ (by omega) (by omega)]
    exact Ev.bind (spec_l4Pow.ev b _ (by omega) (by omega) (by omega)) (EvKit.ret rfl)
  · rw [if_neg h]; exact EvKit.ret rfl
theorem impl_PowGroup.ev (b e : Int) : Ev (fun k => impl_PowGroup.f k b e) (powGroup b e) := by
  unfold impl_PowGroup.f powGroup
  refine Ev.bind (impl_IsGroupElement.ev b) (EvKit.ite (fun h => ?_) (fun h => ?_))
  · rw [if_pos h]
    have h' := isGroup_in h
    refine Ev.bind (impl_Mod.ev _ _) ?_
    rw [modI_pos _ (by omega) (by omega)]
    exact Ev.bind (impl_power.evG b _ (by omega) (by omega) (by omega)) (EvKit.ret rfl)
  · rw [if_neg h]; exact EvKit.ret rfl

/-! ### hashc: the hash, as a function of a list -/
def hashStep (h v : Int) : Int := (h * 1000003 + v % 2147483647 + 13) % 2147483647
def hashL (l : List Int) : Int := l.foldl hashStep 11
def keyed (s : Int) (l : List Int) : Int := hashL (s :: (l ++ [s]))
theorem hashStep_bd (h v : Int) : 0 ≤ hashStep h v ∧ hashStep h v < 2147483647 := by unfold hashStep; omega
theorem foldl_bd : ∀ (l : List Int) (h : Int), 0 ≤ h → h < 2147483647 → 0 ≤ l.foldl hashStep h ∧ l.foldl hashStep h < 2147483647
  | [], _, h0, h1 => ⟨h0, h1⟩
  | v :: l, h, _, _ => foldl_bd l _ (hashStep_bd h v).1 (hashStep_bd h v).2
theorem hashL_bd (l : List Int) : 0 ≤ hashL l ∧ hashL l < 2147483647 := foldl_bd l 11 (by omega) (by omega)
theorem keyed_bd (s : Int) (l : List Int) : 0 ≤ keyed s l ∧ keyed s l < 2147483647 := hashL_bd _
theorem hashStep_w (h v : Int) (h0 : 0 ≤ h) (h1 : h < 2147483647) : Int.tmod (wrap64 (wrap64 (wrap64 (h * 1000003) + v % 2147483647) + 13)) 2147483647 = hashStep h v := by
  rw [EvKit.w64 (n := h * 1000003) (by omega) (by omega), EvKit.w64 (n := h * 1000003 + v % 2147483647) (by omega) (by omega), EvKit.w64 (by omega) (by omega), Int.tmod_eq_emod_of_nonneg (by omega)]
  rfl
theorem rd_drop (l : List Int) (i : Nat) (h : i < l.length) : l.drop i = rd l (i : Int) :: l.drop (i + 1) := by
  rw [List.drop_eq_getElem_cons h]
  simp [rd, List.getD, List.getElem?_eq_getElem h]

/-! ### spec.Mod, spec.Hash, spec.KeyedHash -/
theorem spec_Hash.ev_l (l : List Int) (hl : l.length ≤ 9223372036854775806) : ∀ (d i : Nat) (h : Int), l.length - i = d → i ≤ l.length → 0 ≤ h → h < 2147483647 →
    Ev (fun k => spec_Hash.l0 k l h (i : Int)) ((l.drop i).foldl hashStep h) := by
  intro d
  induction d with
  | zero =>
    intro i h hd hi h0 h1
    refine Ev.step (fun k => by rw [spec_Hash.l0]) ?_
    refine EvKit.itf (by omega) (EvKit.ret ?_)
    rw [List.drop_of_length_le (by omega)]
    rfl
  | succ d ih =>
    intro i h hd hi h0 h1
    refine Ev.step (fun k => by rw [spec_Hash.l0]) ?_
    refine EvKit.itt (by omega) (EvKit.itt (by omega) (EvKit.bnd (spec_Mod.eq _ _) ?_))
    rw [modI_pos _ (by omega) (by omega), hashStep_w _ _ h0 h1, EvKit.w64 (n := (i : Int) + 1) (by omega) (by omega), rd_drop l i (by omega)]
    exact ih (i + 1) _ (by omega) (by omega) (hashStep_bd _ _).1 (hashStep_bd _ _).2
theorem spec_Hash.ev (l : List Int) (hl : l.length ≤ 9223372036854775806) : Ev (fun k => spec_Hash.f k l) (hashL l) :=
  spec_Hash.ev_l l hl _ 0 11 rfl (by omega) (by omega) (by omega)

theorem spec_KeyedHash.ev (s : Int) (l : List Int) (hl : l.length ≤ 17592186044410) : Ev (fun k => spec_KeyedHash.f k s l) (keyed s l) := by
  unfold spec_KeyedHash.f
  refine EvKit.now (EvKit.itt (by simp only [List.length_cons, List.length_nil]; omega) (EvKit.now (EvKit.itt (by simp only [List.length_cons, List.length_nil, List.length_append]; omega) (Ev.bind (spec_Hash.ev _ (by simp only [List.length_cons, List.length_nil, List.length_append]; omega)) (EvKit.ret ?_)))))
  simp [keyed]

/-! ### impl.Mod, impl.Hash -/
theorem impl_Hash.ev_l (l : List Int) (hl : l.length ≤ 9223372036854775806) : ∀ (d i : Nat) (h : Int), l.length - i = d → i ≤ l.length → 0 ≤ h → h < 2147483647 →
    Ev (fun k => impl_Hash.l0 k h l (l.length : Int) (i : Int)) ((l.drop i).foldl hashStep h) := by
  intro d
  induction d with
  | zero =>
    intro i h hd hi h0 h1
    refine Ev.step (fun k => by rw [impl_Hash.l0]) ?_
    refine EvKit.itf (by omega) (EvKit.ret ?_)
    rw [List.drop_of_length_le (by omega)]
    rfl
  | succ d ih =>
    intro i h hd hi h0 h1
    refine Ev.step (fun k => by rw [impl_Hash.l0]) ?_
    refine EvKit.itt (by omega) (EvKit.itt (by omega) (EvKit.itt (by omega) (Ev.bind (impl_Mod.ev _ _) ?_)))
    rw [modI_pos _ (by omega) (by omega), hashStep_w _ _ h0 h1, EvKit.w64 (n := (i : Int) + 1) (by omega) (by omega), rd_drop l i (by omega)]
    exact ih (i + 1) _ (by omega) (by omega) (hashStep_bd _ _).1 (hashStep_bd _ _).2
theorem impl_Hash.ev (l : List Int) (hl : l.length ≤ 9223372036854775806) : Ev (fun k => impl_Hash.f k l) (hashL l) :=
  impl_Hash.ev_l l hl _ 0 11 rfl (by omega) (by omega) (by omega)

/-! ### impl.joined -/
theorem rdL_drop (L : List (List Int)) (i : Nat) (h : i < L.length) : L.drop i = rd_L5 L (i : Int) :: L.drop (i + 1) := by
  rw [List.drop_eq_getElem_cons h]
  simp [rd_L5, List.getD, List.getElem?_eq_getElem h]
def lenSum : List (List Int) → Nat
  | [] => 0
  | l :: L => l.length + lenSum L
theorem impl_joined.ev_l (L : List (List Int)) (hL : L.length ≤ 9223372036854775806) : ∀ (d i : Nat) (acc : List Int), L.length - i = d → i ≤ L.length → acc.length + lenSum (L.drop i) < 17592186044416 →
    Ev (fun k => impl_joined.l0 k acc L (L.length : Int) (i : Int)) (acc ++ (L.drop i).flatten) := by
  intro d
  induction d with
  | zero =>
    intro i acc hd hi hs
    refine Ev.step (fun k => by rw [impl_joined.l0]) ?_
    refine EvKit.itf (by omega) (EvKit.ret ?_)
    rw [List.drop_of_length_le (by omega)]
    simp
  | succ d ih =>
    intro i acc hd hi hs
    have hr := rdL_drop L i (by omega)
    rw [hr] at hs ⊢
    simp only [lenSum] at hs
    refine Ev.step (fun k => by rw [impl_joined.l0]) ?_
    refine EvKit.itt (by omega) (EvKit.itt (by omega) (EvKit.itt (by omega) (EvKit.itt (by omega) ?_)))
    rw [EvKit.w64 (n := (i : Int) + 1) (by omega) (by omega)]
    refine EvKit.ev_to (ih (i + 1) _ (by omega) (by omega) (by simp only [List.length_append]; omega)) ?_
    simp
theorem impl_joined.ev (a : List Int) (L : List (List Int)) (hL : L.length ≤ 9223372036854775806) (hs : a.length + lenSum L < 17592186044416) : Ev (fun k => impl_joined.f k a L) (a ++ L.flatten) := by
  unfold impl_joined.f
  refine EvKit.now (EvKit.itt (by simp only [List.length_nil]; omega) (EvKit.ev_to (impl_joined.ev_l L hL _ 0 _ rfl (by omega) (by simpa using hs)) ?_))
  simp

theorem impl_KeyedHash.ev (s : Int) (l : List Int) (hl : l.length ≤ 17592186044410) : Ev (fun k => impl_KeyedHash.f k s l) (keyed s l) := by
  unfold impl_KeyedHash.f
  refine Ev.bind (impl_joined.ev [s] [l, [s]] (by simp) (by simp only [lenSum, List.length_cons, List.length_nil]; omega)) (Ev.bind (impl_Hash.ev _ (by simp; omega)) (EvKit.ret ?_))
  simp [keyed]

def hashG (l v : Int) : Int := powGroup 4 (wrap64 (1 + (Int.tmod (Int.tmod (wrap64 (keyed l [89, v] * keyed l [89, v])) 2147483647) 1018)))
theorem spec_HashToGroup.ev (l v : Int) : Ev (fun k => spec_HashToGroup.f k l v) (hashG l v) := by
  unfold spec_HashToGroup.f
  exact Ev.bind (spec_KeyedHash.ev _ _ (by simp)) (Ev.bind (spec_PowGroup.ev _ _) (EvKit.ret rfl))
theorem impl_HashToGroup.ev (l v : Int) : Ev (fun k => impl_HashToGroup.f k l v) (hashG l v) := by
  unfold impl_HashToGroup.f
  exact Ev.bind (impl_KeyedHash.ev _ _ (by simp)) (Ev.bind (impl_PowGroup.ev _ _) (EvKit.ret rfl))
def dirOut (s l v : Int) : Int := powGroup (hashG l v) s
theorem spec_DirectOutput.ev (s l v : Int) : Ev (fun k => spec_DirectOutput.f k s l v) (dirOut s l v) := by
  unfold spec_DirectOutput.f
  exact Ev.bind (spec_HashToGroup.ev _ _) (Ev.bind (spec_PowGroup.ev _ _) (EvKit.ret rfl))
theorem impl_DirectOutput.ev (s l v : Int) : Ev (fun k => impl_DirectOutput.f k s l v) (dirOut s l v) := by
  unfold impl_DirectOutput.f
  exact Ev.bind (impl_HashToGroup.ev _ _) (Ev.bind (impl_PowGroup.ev _ _) (EvKit.ret rfl))

def deriveK (s : Int) (l : List Int) : Int := if keyed s (151 :: l) = 0 then 1 else keyed s (151 :: l)
theorem deriveK_bd (s : Int) (l : List Int) : 1 ≤ deriveK s l ∧ deriveK s l < 2147483647 := by
  have := keyed_bd s (151 :: l)
  unfold deriveK
  split <;> omega
theorem spec_Max.eq (a b : Int) : spec_Max.f a b = some (max a b) := by unfold spec_Max.f; split <;> congr 1 <;> omega
theorem spec_DeriveKey.ev (s : Int) (l : List Int) (hl : l.length ≤ 17592186044400) : Ev (fun k => spec_DeriveKey.f k s l) (deriveK s l) := by
  unfold spec_DeriveKey.f
  refine EvKit.now (EvKit.itt (by simp only [List.length_cons, List.length_nil]; omega) (Ev.bind (spec_KeyedHash.ev _ _ (by simp; omega)) (EvKit.bnd (spec_Max.eq _ _) (EvKit.ret ?_))))
  have h := keyed_bd s (151 :: l)
  show max 1 (keyed s (151 :: l)) = deriveK s l
  unfold deriveK
  split <;> omega
theorem impl_orOne.eq (a : Int) : impl_orOne.f a = some (if a = 0 then 1 else a) := by unfold impl_orOne.f; split <;> rfl
theorem impl_DeriveKey.ev (s : Int) (l : List Int) (hl : l.length ≤ 17592186044400) : Ev (fun k => impl_DeriveKey.f k s l) (deriveK s l) := by
  unfold impl_DeriveKey.f
  refine Ev.bind (impl_joined.ev [151] [l] (by simp) (by simp only [lenSum, List.length_cons, List.length_nil]; omega)) (Ev.bind (impl_KeyedHash.ev _ _ (by simp; omega)) (EvKit.bnd (impl_orOne.eq _) (EvKit.ret ?_)))
  simp [deriveK]

def outKey (e l : Int) : Int := if keyed e [157, l] = 0 then 1 else keyed e [157, l]
theorem spec_OutputKey.ev (e l : Int) : Ev (fun k => spec_OutputKey.f k e l) (outKey e l) := by
  unfold spec_OutputKey.f
  have h := keyed_bd e [157, l]
  refine Ev.bind (spec_KeyedHash.ev _ _ (by simp)) (EvKit.bnd (spec_Max.eq _ _) (EvKit.ret ?_))
  unfold outKey
  split <;> omega
theorem impl_OutputKey.ev (e l : Int) : Ev (fun k => impl_OutputKey.f k e l) (outKey e l) := by
  unfold impl_OutputKey.f
  refine Ev.bind (impl_KeyedHash.ev _ _ (by simp)) (EvKit.bnd (impl_orOne.eq _) (EvKit.ret rfl))

theorem spec_VaultCheck.ev (o s : Int) : Ev (fun k => spec_VaultCheck.f k o s) (keyed o [257, s]) := by
  unfold spec_VaultCheck.f
  exact Ev.bind (spec_KeyedHash.ev _ _ (by simp)) (EvKit.ret rfl)
theorem impl_VaultCheck.ev (o s : Int) : Ev (fun k => impl_VaultCheck.f k o s) (keyed o [257, s]) := by
  unfold impl_VaultCheck.f
  exact Ev.bind (impl_KeyedHash.ev _ _ (by simp)) (EvKit.ret rfl)

def maskK (key mask : Int) : Int := if 0 ≤ key ∧ key ≤ 2147483647 then Go.bits .xor .i64 key (deriveK mask [251]) else 0
theorem spec_MaskKey.ev (a b : Int) : Ev (fun k => spec_MaskKey.f k a b) (maskK a b) := by
  unfold spec_MaskKey.f maskK
  refine EvKit.bnd (spec_l1In.eq _ _ _) (EvKit.ite (fun h => ?_) (fun h => ?_))
  · rw [if_pos (by simpa using h)]
    exact Ev.bind (spec_DeriveKey.ev _ _ (by simp)) (EvKit.ret rfl)
  · rw [if_neg (by simpa using h)]
    exact EvKit.ret rfl
theorem impl_MaskKey.ev (a b : Int) : Ev (fun k => impl_MaskKey.f k a b) (maskK a b) := by
  unfold impl_MaskKey.f maskK
  refine EvKit.bnd (impl_InRange.eq _ _ _) (EvKit.ite (fun h => ?_) (fun h => ?_))
  · rw [if_pos (by simpa using h)]
    exact Ev.bind (impl_DeriveKey.ev _ _ (by simp)) (EvKit.ret rfl)
  · rw [if_neg (by simpa using h)]
    exact EvKit.ret rfl

/-! ### polynomials, shares, vaults -/
theorem l5m_eq (a : Int) : spec_l5Mod.f a = some (a % 1019) := by
  unfold spec_l5Mod.f
  rw [spec_Mod.eq, Option.bind_some, modI_pos _ (by omega) (by omega)]
theorem iMod_ev (a : Int) : Ev (fun k => impl_Mod.f k a 1019) (a % 1019) := by
  have h := impl_Mod.ev a 1019
  rwa [modI_pos _ (by omega) (by omega)] at h
def pv (x : Int) : List Int → Int
  | [] => 0
  | c :: l => ((pv x l + c % 1019) * x) % 1019
theorem pv_bd (x : Int) : ∀ l, 0 ≤ pv x l ∧ pv x l < 1019
  | [] => by simp [pv]
  | c :: l => by unfold pv; omega
def polyF (c : Int) (l : List Int) (x : Int) : Int := (pv x l + c % 1019) % 1019
theorem rd_dropP (l : List Int) (i : Nat) (h : i < l.length) : l.drop i = rd l (i : Int) :: l.drop (i + 1) := by
  rw [List.drop_eq_getElem_cons h]
  simp [rd, List.getD, List.getElem?_eq_getElem h]
theorem pv_next (x v c : Int) (hx : 1 ≤ x) (hx2 : x ≤ 7) (h0 : 0 ≤ v) (h1 : v < 1019) : Int.tmod (wrap64 ((wrap64 (v + c % 1019)) * x)) 1019 = ((v + c % 1019) * x) % 1019 := by
  rw [EvKit.w64 (n := v + c % 1019) (by omega) (by omega)]
  have hm0 : 0 ≤ (v + c % 1019) * x := Int.mul_nonneg (by omega) (by omega)
  have hm1 : (v + c % 1019) * x ≤ (v + c % 1019) * 7 := Int.mul_le_mul_of_nonneg_left (by omega) (by omega)
  rw [EvKit.w64 (by omega) (by omega), Int.tmod_eq_emod_of_nonneg hm0]
theorem spec_l5Poly.ev (c : Int) (l : List Int) (x : Int) (hl : l.length ≤ 1048576) (hx : 1 ≤ x) (hx2 : x ≤ 7) : Ev (fun k => spec_l5Poly.f k c l x) (polyF c l x) := by
  unfold spec_l5Poly.f
  rw [EvKit.w64 (by omega) (by omega)]
  have h : ∀ (n : Nat), n ≤ l.length → Ev (fun k => spec_l5Poly.l0 k c l x (pv x (l.drop n)) ((n : Int) - 1)) (polyF c l x) := by
    intro n
    induction n with
    | zero =>
      intro _
      have hb := pv_bd x l
      refine Ev.step (fun k => by rw [spec_l5Poly.l0]) ?_
      refine EvKit.itf (by omega) (EvKit.bnd (l5m_eq c) (EvKit.ret ?_))
      rw [List.drop_zero, EvKit.w64 (by omega) (by omega), Int.tmod_eq_emod_of_nonneg (by omega)]
      rfl
    | succ n ih =>
      intro hn
      have hb := pv_bd x (l.drop (n + 1))
      refine Ev.step (fun k => by rw [spec_l5Poly.l0]) ?_
      rw [show ((n + 1 : Nat) : Int) - 1 = (n : Int) by omega]
      refine EvKit.itt (by omega) (EvKit.itt (by omega) (EvKit.itt (by omega) (EvKit.bnd (l5m_eq _) ?_)))
      rw [pv_next x _ _ hx hx2 hb.1 hb.2, EvKit.w64 (n := (n : Int) - 1) (by omega) (by omega)]
      have h2 := ih (by omega)
      rw [rd_dropP l n (by omega), pv] at h2
      exact h2
  have h3 := h l.length (Nat.le_refl _)
  rw [List.drop_length, pv] at h3
  exact h3
theorem impl_polynomial.ev (c : Int) (l : List Int) (x : Int) (hl : l.length ≤ 1048576) (hx : 1 ≤ x) (hx2 : x ≤ 7) : Ev (fun k => impl_polynomial.f k c l x) (polyF c l x) := by
  unfold impl_polynomial.f
  rw [EvKit.w64 (by omega) (by omega)]
  have h : ∀ (n : Nat), n ≤ l.length → Ev (fun k => impl_polynomial.l0 k c l x (pv x (l.drop n)) ((n : Int) - 1)) (polyF c l x) := by
    intro n
    induction n with
    | zero =>
      intro _
      have hb := pv_bd x l
      refine Ev.step (fun k => by rw [impl_polynomial.l0]) ?_
      refine EvKit.itf (by omega) (Ev.bind (iMod_ev c) (Ev.bind (iMod_ev _) (EvKit.ret ?_)))
      rw [List.drop_zero, EvKit.w64 (by omega) (by omega)]
      rfl
    | succ n ih =>
      intro hn
      have hb := pv_bd x (l.drop (n + 1))
      refine Ev.step (fun k => by rw [impl_polynomial.l0]) ?_
      rw [show ((n + 1 : Nat) : Int) - 1 = (n : Int) by omega]
      refine EvKit.itt (by omega) (EvKit.itt (by omega) (EvKit.itt (by omega) (Ev.bind (iMod_ev _) ?_)))
      rw [pv_next x _ _ hx hx2 hb.1 hb.2, EvKit.w64 (n := (n : Int) - 1) (by omega) (by omega)]
      have h2 := ih (by omega)
      rw [rd_dropP l n (by omega), pv] at h2
      exact h2
  have h3 := h l.length (Nat.le_refl _)
  rw [List.drop_length, pv] at h3
  exact h3
def shF (c : Int) (l : List Int) : Nat → Nat → List S42
  | _, 0 => []
  | i, n + 1 => (⟨(i : Int), polyF c l (i : Int)⟩ : S42) :: shF c l (i + 1) n
theorem shF_len (c : Int) (l : List Int) : ∀ (n i : Nat), (shF c l i n).length = n
  | 0, _ => rfl
  | n + 1, i => by simp [shF, shF_len c l n]
def sharesV (c : Int) (l : List Int) (cnt : Int) : List S42 := if 1 ≤ cnt ∧ cnt ≤ 7 ∧ (l.length : Int) < cnt then shF c l 1 cnt.toNat else []
theorem sharesV_len (c : Int) (l : List Int) (cnt : Int) : (sharesV c l cnt).length ≤ 7 := by
  unfold sharesV
  split
  · rw [shF_len]; omega
  · simp
theorem spec_ShareSecret.ev (c : Int) (l : List Int) (cnt : Int) (hl : l.length ≤ 1048576) : Ev (fun k => spec_ShareSecret.f k c l cnt) (sharesV c l cnt) := by
  unfold spec_ShareSecret.f sharesV
  have hf : Ev (fun k => spec_ShareSecret.j0 k c l cnt [] true) [] := by
    refine Ev.step (fun k => by rw [spec_ShareSecret.j0]) ?_
    exact EvKit.itt rfl (EvKit.ret rfl)
  have h : ∀ (n i : Nat) (p : List S42), cnt ≤ 7 → 1 ≤ i → (i : Int) + (n : Int) = cnt + 1 → p.length ≤ i → Ev (fun k => spec_ShareSecret.l0 k c l cnt p (i : Int)) (p ++ shF c l i n) := by
    intro n
    induction n with
    | zero =>
      intro i p h7 h1 h2 h3
      refine Ev.step (fun k => by rw [spec_ShareSecret.l0]) ?_
      exact EvKit.itf (by omega) (EvKit.ret (by simp [shF]))
    | succ n ih =>
      intro i p h7 h1 h2 h3
      refine Ev.step (fun k => by rw [spec_ShareSecret.l0]) ?_
      rw [EvKit.w64 (n := (i : Int) + 1) (by omega) (by omega)]
      exact EvKit.itt (by omega) (Ev.bind (spec_l5Poly.ev c l (i : Int) hl (by omega) (by omega)) (EvKit.itt (by omega) (EvKit.ev_to (ih (i + 1) (p ++ [(⟨(i : Int), polyF c l (i : Int)⟩ : S42)]) h7 (by omega) (by omega) (by simp; omega)) (by simp [shF]))))
  refine EvKit.now (EvKit.bnd (spec_l1In.eq _ _ _) (EvKit.ite (fun h1 => ?_) (fun h1 => ?_)))
  · have h1' := of_decide_eq_true h1
    by_cases h2 : (l.length : Int) ≥ cnt
    · rw [decide_eq_true h2, if_neg (by omega)]; exact hf
    · rw [decide_eq_false h2, if_pos ⟨h1'.1, h1'.2, by omega⟩]
      refine Ev.step (fun k => by rw [spec_ShareSecret.j0]) ?_
      refine EvKit.itf (by simp) ?_
      exact EvKit.ev_to (h cnt.toNat 1 [] h1'.2 (by omega) (by omega) (by simp)) (by simp)
  · rw [if_neg (fun hh => h1 (decide_eq_true ⟨hh.1, hh.2.1⟩))]; exact hf
theorem impl_ShareSecret.ev (c : Int) (l : List Int) (cnt : Int) (hl : l.length ≤ 1048576) : Ev (fun k => impl_ShareSecret.f k c l cnt) (sharesV c l cnt) := by
  unfold impl_ShareSecret.f sharesV
  have hf : Ev (fun k => impl_ShareSecret.j0 k c l cnt true) [] := by
    refine Ev.step (fun k => by rw [impl_ShareSecret.j0]) ?_
    exact EvKit.itt rfl (EvKit.ret rfl)
  have h : ∀ (n i : Nat) (p : List S42), cnt ≤ 7 → 1 ≤ i → (i : Int) + (n : Int) = cnt + 1 → p.length ≤ i → Ev (fun k => impl_ShareSecret.l0 k c l cnt p (i : Int)) (p ++ shF c l i n) := by
    intro n
    induction n with
    | zero =>
      intro i p h7 h1 h2 h3
      refine Ev.step (fun k => by rw [impl_ShareSecret.l0]) ?_
      exact EvKit.itf (by omega) (EvKit.ret (by simp [shF]))
    | succ n ih =>
      intro i p h7 h1 h2 h3
      refine Ev.step (fun k => by rw [impl_ShareSecret.l0]) ?_
      rw [EvKit.w64 (n := (i : Int) + 1) (by omega) (by omega)]
      exact EvKit.itt (by omega) (Ev.bind (impl_polynomial.ev c l (i : Int) hl (by omega) (by omega)) (EvKit.itt (by omega) (EvKit.ev_to (ih (i + 1) (p ++ [(⟨(i : Int), polyF c l (i : Int)⟩ : S42)]) h7 (by omega) (by omega) (by simp; omega)) (by simp [shF]))))
  refine EvKit.bnd (impl_InRange.eq _ _ _) (EvKit.ite (fun h1 => ?_) (fun h1 => ?_))
  · have h1' := of_decide_eq_true h1
    by_cases h2 : (l.length : Int) ≥ cnt
    · rw [decide_eq_true h2, if_neg (by omega)]; exact hf
    · rw [decide_eq_false h2, if_pos ⟨h1'.1, h1'.2, by omega⟩]
      refine Ev.step (fun k => by rw [impl_ShareSecret.j0]) ?_
      refine EvKit.itf (by simp) ?_
      exact EvKit.ev_to (h cnt.toNat 1 [] h1'.2 (by omega) (by omega) (by simp)) (by simp)
  · rw [if_neg (fun hh => h1 (decide_eq_true ⟨hh.1, hh.2.1⟩))]; exact hf
def hostsV (lim : Int) : List S42 → List S47
  | [] => []
  | s :: l => (⟨(⟨(⟨s.f0, s.f1⟩ : S42), 0, 0, lim⟩ : S44), [], markV 0 0⟩ : S47) :: hostsV lim l
theorem hostsV_len (lim : Int) : ∀ l, (hostsV lim l).length = l.length
  | [] => rfl
  | _ :: l => by simp [hostsV, hostsV_len lim l]
theorem hostsV_f1 (lim : Int) : ∀ l, ∀ x ∈ hostsV lim l, x.f1.length = 0
  | [], x, h => by simp [hostsV] at h
  | s :: l, x, h => by
    rcases List.mem_cons.1 h with rfl | h
    · rfl
    · exact hostsV_f1 lim l x h
theorem rdSh_drop (l : List S42) (i : Nat) (h : i < l.length) : l.drop i = rd_T42 l (i : Int) :: l.drop (i + 1) := by
  rw [List.drop_eq_getElem_cons h]
  simp [rd_T42, List.getD, List.getElem?_eq_getElem h]
def vEnd (salt key lim o : Int) (co : List Int) (sh : List S42) : Int × Int × Int × Int × List S47 × Bool := (salt, wrap64 ((co.length : Int) + 1), keyed o [257, salt], maskK key o, hostsV lim sh, true)
theorem spec_MakeVault.ev_l (salt key lim o : Int) (co : List Int) (sh : List S42) (hs : sh.length ≤ 7) : ∀ (n i : Nat) (p : List S47), sh.length - i = n → i ≤ sh.length → p.length = i → Ev (fun k => spec_MakeVault.l0 k salt key co lim sh o p (i : Int)) (salt, wrap64 ((co.length : Int) + 1), keyed o [257, salt], maskK key o, p ++ hostsV lim (sh.drop i), true) := by
  intro n
  induction n with
  | zero =>
    intro i p hd hi hp
    refine Ev.step (fun k => by rw [spec_MakeVault.l0]) ?_
    rw [List.drop_of_length_le (by omega)]
    exact EvKit.itf (by omega) (Ev.bind (spec_VaultCheck.ev _ _) (Ev.bind (spec_MaskKey.ev _ _) (EvKit.ret (by simp [hostsV]))))
  | succ n ih =>
    intro i p hd hi hp
    refine Ev.step (fun k => by rw [spec_MakeVault.l0]) ?_
    rw [rdSh_drop sh i (by omega), EvKit.w64 (n := (i : Int) + 1) (by omega) (by omega)]
    exact EvKit.itt (by omega) (EvKit.itt (by omega) (EvKit.bnd (spec_StartHost.eq _ _ _ _ _) (EvKit.itt (by omega) (EvKit.ev_to (ih (i + 1) (p ++ [(⟨(⟨(⟨(rd_T42 sh (i : Int)).f0, (rd_T42 sh (i : Int)).f1⟩ : S42), 0, 0, lim⟩ : S44), [], markV 0 0⟩ : S47)]) (by omega) (by omega) (by simp; omega)) (by simp [hostsV])))))
theorem impl_MakeVault.ev_l (salt key lim o : Int) (co : List Int) (sh : List S42) (hs : sh.length ≤ 7) : ∀ (n i : Nat) (p : List S47), sh.length - i = n → i ≤ sh.length → p.length = i → Ev (fun k => impl_MakeVault.l0 k salt key co lim o p sh (sh.length : Int) (i : Int)) (salt, wrap64 ((co.length : Int) + 1), keyed o [257, salt], maskK key o, p ++ hostsV lim (sh.drop i), true) := by
  intro n
  induction n with
  | zero =>
    intro i p hd hi hp
    refine Ev.step (fun k => by rw [impl_MakeVault.l0]) ?_
    rw [List.drop_of_length_le (by omega)]
    exact EvKit.itf (by omega) (Ev.bind (impl_VaultCheck.ev _ _) (Ev.bind (impl_MaskKey.ev _ _) (EvKit.ret (by simp [hostsV]))))
  | succ n ih =>
    intro i p hd hi hp
    refine Ev.step (fun k => by rw [impl_MakeVault.l0]) ?_
    rw [rdSh_drop sh i (by omega), EvKit.w64 (n := (i : Int) + 1) (by omega) (by omega)]
    exact EvKit.itt (by omega) (EvKit.itt (by omega) (EvKit.itt (by omega) (EvKit.bnd (impl_StartHost.eq _ _ _ _ _) (EvKit.itt (by omega) (EvKit.ev_to (ih (i + 1) (p ++ [(⟨(⟨(⟨(rd_T42 sh (i : Int)).f0, (rd_T42 sh (i : Int)).f1⟩ : S42), 0, 0, lim⟩ : S44), [], markV 0 0⟩ : S47)]) (by omega) (by omega) (by simp; omega)) (by simp [hostsV]))))))
def okK (a : Int) : Bool := decide (1 ≤ a ∧ a ≤ 2147483646)
theorem spec_okK (a : Int) : spec_IsValidKey.f a = some (okK a) := by unfold spec_IsValidKey.f; rw [spec_l1In.eq]; rfl
theorem impl_okK (a : Int) : impl_IsValidKey.f a = some (okK a) := by unfold impl_IsValidKey.f; rw [impl_InRange.eq]; rfl
def vaultV (pin salt key sec : Int) (co : List Int) (cnt lim : Int) : Int × Int × Int × Int × List S47 × Bool :=
  if (0 ≤ pin ∧ pin ≤ 9999) ∧ (0 ≤ salt ∧ salt ≤ 1000000) ∧ okK key = true ∧ sec % 1019 ≠ 0 ∧ (1 ≤ lim ∧ lim ≤ 10) ∧ (sharesV sec co cnt).length ≠ 0 then vEnd salt key lim (outKey (dirOut sec salt pin) salt) co (sharesV sec co cnt) else (0, 0, 0, 0, [], false)
theorem spec_MakeVault.ev (pin salt key sec : Int) (co : List Int) (cnt lim : Int) (hl : co.length ≤ 1048576) : Ev (fun k => spec_MakeVault.f k pin salt key sec co cnt lim) (vaultV pin salt key sec co cnt lim) := by
  unfold spec_MakeVault.f vaultV
  have hs := sharesV_len sec co cnt
  refine Ev.bind (spec_ShareSecret.ev sec co cnt hl) ?_
  generalize sharesV sec co cnt = sh at hs ⊢
  have hf : Ev (fun k => spec_MakeVault.j0 k pin salt key sec co lim sh true) (0, 0, 0, 0, [], false) := by
    refine Ev.step (fun k => by rw [spec_MakeVault.j0]) ?_
    exact EvKit.itt rfl (EvKit.ret rfl)
  refine EvKit.bnd (spec_l1In.eq _ _ _) (EvKit.ite (fun h1 => EvKit.bnd (spec_l1In.eq _ _ _) (EvKit.ite (fun h2 => EvKit.bnd (spec_okK _) (EvKit.ite (fun h3 => EvKit.bnd (spec_Mod.eq _ _) (EvKit.ite (fun h4 => ?_) (fun h4 => EvKit.bnd (spec_l1In.eq _ _ _) (EvKit.ite (fun h5 => ?_) (fun h5 => ?_))))) (fun h3 => ?_))) (fun h2 => ?_))) (fun h1 => ?_))
  · rw [modI_pos _ (by omega) (by omega)] at h4
    rw [if_neg (fun hh => hh.2.2.2.1 h4)]; exact hf
  · rw [modI_pos _ (by omega) (by omega)] at h4
    by_cases h6 : sh.length = 0
    · rw [if_neg (fun hh => hh.2.2.2.2.2 h6), show ((sh.length : Int) == 0) = true by simp [h6]]; exact hf
    · rw [if_pos ⟨of_decide_eq_true h1, of_decide_eq_true h2, h3, h4, of_decide_eq_true h5, h6⟩, show ((sh.length : Int) == 0) = false by simpa using h6]
      refine Ev.step (fun k => by rw [spec_MakeVault.j0]) ?_
      refine EvKit.itf (by simp) (Ev.bind (spec_DirectOutput.ev _ _ _) (Ev.bind (spec_OutputKey.ev _ _) ?_))
      exact EvKit.ev_to (spec_MakeVault.ev_l salt key lim _ co sh hs _ 0 [] rfl (by omega) rfl) (by simp [vEnd])
  · rw [if_neg (fun hh => h5 (decide_eq_true hh.2.2.2.2.1))]; exact hf
  · rw [if_neg (fun hh => h3 hh.2.2.1)]; exact hf
  · rw [if_neg (fun hh => h2 (decide_eq_true hh.2.1))]; exact hf
  · rw [if_neg (fun hh => h1 (decide_eq_true hh.1))]; exact hf
theorem impl_MakeVault.ev (pin salt key sec : Int) (co : List Int) (cnt lim : Int) (hl : co.length ≤ 1048576) : Ev (fun k => impl_MakeVault.f k pin salt key sec co cnt lim) (vaultV pin salt key sec co cnt lim) := by
  unfold impl_MakeVault.f vaultV
  have hs := sharesV_len sec co cnt
  have hf : Ev (fun k => impl_MakeVault.j0 k pin salt key sec co cnt lim true) (0, 0, 0, 0, [], false) := by
    refine Ev.step (fun k => by rw [impl_MakeVault.j0]) ?_
    exact EvKit.itt rfl (EvKit.ret rfl)
  refine EvKit.bnd (impl_InRange.eq _ _ _) (EvKit.ite (fun h1 => EvKit.bnd (impl_InRange.eq _ _ _) (EvKit.ite (fun h2 => EvKit.bnd (impl_okK _) (EvKit.ite (fun h3 => Ev.bind (iMod_ev _) (EvKit.ite (fun h4 => ?_) (fun h4 => EvKit.bnd (impl_InRange.eq _ _ _) ?_))) (fun h3 => ?_))) (fun h2 => ?_))) (fun h1 => ?_))
  · rw [if_neg (fun hh => hh.2.2.2.1 h4)]; exact hf
  · by_cases h5 : 1 ≤ lim ∧ lim ≤ 10
    · rw [decide_eq_true h5]
      refine Ev.step (fun k => by rw [impl_MakeVault.j0]) ?_
      refine EvKit.itf (by simp) (Ev.bind (impl_ShareSecret.ev sec co cnt hl) ?_)
      generalize sharesV sec co cnt = sh at hs ⊢
      refine EvKit.ite (fun h6 => ?_) (fun h6 => ?_)
      · rw [if_neg (fun hh => hh.2.2.2.2.2 (by omega))]; exact EvKit.ret rfl
      · rw [if_pos ⟨of_decide_eq_true h1, of_decide_eq_true h2, h3, h4, h5, by omega⟩]
        refine Ev.bind (impl_DirectOutput.ev _ _ _) (Ev.bind (impl_OutputKey.ev _ _) ?_)
        exact EvKit.ev_to (impl_MakeVault.ev_l salt key lim _ co sh hs _ 0 [] rfl (by omega) rfl) (by simp [vEnd])
    · rw [decide_eq_false h5, if_neg (fun hh => h5 hh.2.2.2.2.1)]; exact hf
  · rw [if_neg (fun hh => h3 hh.2.2.1)]; exact hf
  · rw [if_neg (fun hh => h2 (decide_eq_true hh.2.1))]; exact hf
  · rw [if_neg (fun hh => h1 (decide_eq_true hh.1))]; exact hf
theorem vaultV_hosts (pin salt key sec : Int) (co : List Int) (cnt lim : Int) : (vaultV pin salt key sec co cnt lim).2.2.2.2.1.length ≤ 7 ∧ ∀ x ∈ (vaultV pin salt key sec co cnt lim).2.2.2.2.1, x.f1.length = 0 := by
  unfold vaultV
  split
  · refine ⟨?_, hostsV_f1 _ _⟩
    show (hostsV lim _).length ≤ 7
    rw [hostsV_len]; exact sharesV_len _ _ _
  · simp

namespace ListKit
theorem set_at {α : Type} (p : List α) (x y : α) (q : List α) : (p ++ x :: q).set (p.length : Int).toNat y = p ++ y :: q := by
  rw [Int.toNat_natCast, List.set_append_right _ _ (Nat.le_refl _), Nat.sub_self, List.set_cons_zero]
theorem shift {α : Type} (p : List α) (y : α) (q : List α) : p ++ y :: q = (p ++ [y]) ++ q := by simp
theorem w64w (a b : Int) : wrap64 (wrap64 a + b) = wrap64 (a + b) := by unfold wrap64; omega
end ListKit

theorem laws_eqKeeper.refl (a0 a1 a2 a3 a4 : Int) : laws_eqKeeper.f a0 a1 a2 a3 a4 a0 a1 a2 a3 a4 = some true := by simp [laws_eqKeeper.f, laws_eqShare.f]

/-! ### eqKeeperS: a list and itself -/
theorem laws_eqKeeperS.ev_l (l : List S44) (hl : l.length ≤ 9223372036854775806) : ∀ (d i : Nat), l.length - i = d → i ≤ l.length → Ev (fun k => laws_eqKeeperS.l0 k l l (i : Int)) true := by
  intro d
  induction d with
  | zero =>
    intro i hd hi
    refine Ev.step (fun k => by rw [laws_eqKeeperS.l0]) ?_
    exact EvKit.itf (by omega) (EvKit.ret rfl)
  | succ d ih =>
    intro i hd hi
    refine Ev.step (fun k => by rw [laws_eqKeeperS.l0]) ?_
    refine EvKit.itt (by omega) (EvKit.itt (by omega) (EvKit.itt (by omega) (EvKit.bnd (laws_eqKeeper.refl ..) (EvKit.itt rfl ?_))))
    rw [EvKit.w64 (n := (i : Int) + 1) (by omega) (by omega)]
    exact ih (i + 1) (by omega) (by omega)
theorem laws_eqKeeperS.ev (l : List S44) (hl : l.length ≤ 9223372036854775806) : Ev (fun k => laws_eqKeeperS.f k l l) true := by
  unfold laws_eqKeeperS.f
  exact EvKit.itt rfl (laws_eqKeeperS.ev_l l hl _ 0 rfl (by omega))

theorem laws_eqKeeperHost.ev (a b c d e : Int) (l : List S44) (m : Int) (hl : l.length ≤ 9223372036854775806) : Ev (fun k => laws_eqKeeperHost.f k a b c d e l m a b c d e l m) true := by
  unfold laws_eqKeeperHost.f
  exact EvKit.bnd (laws_eqKeeper.refl ..) (EvKit.itt rfl (Ev.bind (laws_eqKeeperS.ev l hl) (EvKit.itt rfl (EvKit.itt rfl (EvKit.ret rfl)))))

/-! ### eqKeeperHostS -/
theorem rd_T47_drop (l : List S47) (i : Nat) (h : i < l.length) : l.drop i = rd_T47 l (i : Int) :: l.drop (i + 1) := by
  rw [List.drop_eq_getElem_cons h]
  simp [rd_T47, List.getD, List.getElem?_eq_getElem h]
theorem rd_T47_mem (l : List S47) (i : Nat) (h : i < l.length) : rd_T47 l (i : Int) ∈ l :=
  List.drop_subset i l (by rw [rd_T47_drop l i h]; exact List.mem_cons_self)
theorem laws_eqKeeperHostS.ev_l (l : List S47) (hl : l.length ≤ 9223372036854775806) (he : ∀ x ∈ l, x.f1.length ≤ 9223372036854775806) : ∀ (d i : Nat), l.length - i = d → i ≤ l.length → Ev (fun k => laws_eqKeeperHostS.l0 k l l (i : Int)) true := by
  intro d
  induction d with
  | zero =>
    intro i hd hi
    refine Ev.step (fun k => by rw [laws_eqKeeperHostS.l0]) ?_
    exact EvKit.itf (by omega) (EvKit.ret rfl)
  | succ d ih =>
    intro i hd hi
    refine Ev.step (fun k => by rw [laws_eqKeeperHostS.l0]) ?_
    refine EvKit.itt (by omega) (EvKit.itt (by omega) (EvKit.itt (by omega) (Ev.bind (laws_eqKeeperHost.ev _ _ _ _ _ _ _ (he _ (rd_T47_mem l i (by omega)))) (EvKit.itt rfl ?_))))
    rw [EvKit.w64 (n := (i : Int) + 1) (by omega) (by omega)]
    exact ih (i + 1) (by omega) (by omega)
theorem laws_eqKeeperHostS.ev (l : List S47) (hl : l.length ≤ 9223372036854775806) (he : ∀ x ∈ l, x.f1.length ≤ 9223372036854775806) : Ev (fun k => laws_eqKeeperHostS.f k l l) true := by
  unfold laws_eqKeeperHostS.f
  exact EvKit.itt rfl (laws_eqKeeperHostS.ev_l l hl he _ 0 rfl (by omega))

/-! ### markKeeperS and heldKeeperS -/
def markKeeperL : Int → List S44 → List S44
  | _, [] => []
  | v, _ :: l => (⟨(⟨v, v + 1⟩ : S42), v + 2, v + 3, v + 4⟩ : S44) :: markKeeperL (v + 5) l
theorem markKeeperL_len : ∀ (l : List S44) (v : Int), (markKeeperL v l).length = l.length
  | [], _ => rfl
  | _ :: l, v => by simp [markKeeperL, markKeeperL_len l]
theorem rd_T44_at (p : List S44) (x : S44) (q : List S44) : rd_T44 (p ++ x :: q) (p.length : Int) = x := by simp [rd_T44]
theorem laws_markKeeperS.ev_l : ∀ (q p : List S44) (v : Int) (i : Nat), i = p.length → 0 ≤ v → v + 5 * (q.length : Int) ≤ 4611686018427387904 → p.length + q.length ≤ 4611686018427387904 →
    Ev (fun k => laws_markKeeperS.l0 k (p ++ q) v (i : Int)) (v + 5 * (q.length : Int), p ++ markKeeperL v q) := by
  intro q
  induction q with
  | nil =>
    intro p v i hi h0 h1 h2
    subst hi
    refine Ev.step (fun k => by rw [laws_markKeeperS.l0]) ?_
    exact EvKit.itf (by simp) (EvKit.ret (by simp [markKeeperL]))
  | cons x q ih =>
    intro p v i hi h0 h1 h2
    subst hi
    simp only [List.length_cons] at h1 h2
    have e1 : wrap64 (v + 1) = v + 1 := EvKit.w64 (by omega) (by omega)
    have e2 : wrap64 (v + 2) = v + 2 := EvKit.w64 (by omega) (by omega)
    have e3 : wrap64 (v + 3) = v + 3 := EvKit.w64 (by omega) (by omega)
    have e4 : wrap64 (v + 4) = v + 4 := EvKit.w64 (by omega) (by omega)
    have e5 : wrap64 (v + 5) = v + 5 := EvKit.w64 (by omega) (by omega)
    have ep : wrap64 ((p.length : Int) + 1) = (p.length : Int) + 1 := EvKit.w64 (by omega) (by omega)
    refine Ev.step (fun k => by rw [laws_markKeeperS.l0]) ?_
    refine EvKit.itt (by simp only [List.length_append, List.length_cons]; omega) (EvKit.itt (by omega) ?_)
    simp only [Option.bind_some, ListKit.set_at, rd_T44_at, ListKit.w64w, Int.add_assoc, Int.reduceAdd, e1, e2, e3, e4, e5, ep]
    rw [ListKit.shift p _ q]
    refine EvKit.ev_to (ih (p ++ [_]) (v + 5) (p.length + 1) (by simp) (by omega) (by omega) (by simp only [List.length_append, List.length_cons, List.length_nil]; omega)) ?_
    simp only [markKeeperL, List.append_assoc, List.cons_append, List.nil_append, List.length_cons]
    refine Prod.ext ?_ rfl
    show v + 5 + 5 * (q.length : Int) = v + 5 * ((q.length + 1 : Nat) : Int)
    omega
theorem laws_markKeeperS.ev (l : List S44) (v : Int) (h0 : 0 ≤ v) (h1 : v + 5 * (l.length : Int) ≤ 4611686018427387904) : Ev (fun k => laws_markKeeperS.f k l v) (v + 5 * (l.length : Int), markKeeperL v l) := by
  unfold laws_markKeeperS.f
  exact laws_markKeeperS.ev_l l [] v 0 rfl h0 h1 (by simp; omega)

/-! ### marks of lists of hosts -/
def savedSz : List S47 → Nat
  | [] => 0
  | x :: l => x.f1.length + savedSz l
def markHostL : Int → List S47 → List S47
  | _, [] => []
  | v, x :: l => (⟨(⟨(⟨v, v + 1⟩ : S42), v + 2, v + 3, v + 4⟩ : S44), markKeeperL (v + 5) x.f1, v + 5 + 5 * (x.f1.length : Int)⟩ : S47) :: markHostL (v + 6 + 5 * (x.f1.length : Int)) l
theorem laws_markKeeperHostS.ev_g : ∀ (l : List S47) (v : Int), 0 ≤ v → v + 6 * (l.length : Int) + 5 * (savedSz l : Int) ≤ 4611686018427387904 → Ev (fun k => laws_markKeeperHostS.go k l v) (v + 6 * (l.length : Int) + 5 * (savedSz l : Int), markHostL v l)
  | [], v, _, _ => EvKit.ret (by simp [savedSz, markHostL])
  | x :: l, v, h0, h1 => by
    simp only [List.length_cons, savedSz] at h1
    have e1 : wrap64 (v + 1) = v + 1 := EvKit.w64 (by omega) (by omega)
    have e2 : wrap64 (v + 2) = v + 2 := EvKit.w64 (by omega) (by omega)
    have e3 : wrap64 (v + 3) = v + 3 := EvKit.w64 (by omega) (by omega)
    have e4 : wrap64 (v + 4) = v + 4 := EvKit.w64 (by omega) (by omega)
    have e5 : wrap64 (v + 5) = v + 5 := EvKit.w64 (by omega) (by omega)
    have e6 : wrap64 (v + 5 + 5 * (x.f1.length : Int) + 1) = v + 6 + 5 * (x.f1.length : Int) := by rw [EvKit.w64 (by omega) (by omega)]; omega
    simp only [laws_markKeeperHostS.go, ListKit.w64w, Int.add_assoc, Int.reduceAdd, e1, e2, e3, e4, e5]
    refine Ev.bind (laws_markKeeperS.ev x.f1 (v + 5) (by omega) (by omega)) ?_
    simp only [Int.add_assoc] at e6 ⊢
    rw [e6]
    refine Ev.bind (laws_markKeeperHostS.ev_g l (v + (6 + 5 * (x.f1.length : Int))) (by omega) (by omega)) (EvKit.ret ?_)
    simp only [markHostL, savedSz, List.length_cons, Int.add_assoc]
    refine Prod.ext ?_ rfl
    dsimp only
    omega
theorem laws_markKeeperHostS.ev (l : List S47) (v : Int) (h0 : 0 ≤ v) (h1 : v + 6 * (l.length : Int) + 5 * (savedSz l : Int) ≤ 4611686018427387904) : Ev (fun k => laws_markKeeperHostS.f k l v) (v + 6 * (l.length : Int) + 5 * (savedSz l : Int), markHostL v l) := by
  unfold laws_markKeeperHostS.f
  exact EvKit.itt (by omega) (laws_markKeeperHostS.ev_g l v h0 h1)

theorem laws_heldKeeperS.ev_l : ∀ (q p : List S44) (v : Int) (i : Nat), i = p.length → 0 ≤ v → v + 5 * (q.length : Int) ≤ 4611686018427387904 → p.length + q.length ≤ 4611686018427387904 →
    Ev (fun k => laws_heldKeeperS.l0 k (p ++ markKeeperL v q) v (i : Int)) (v + 5 * (q.length : Int)) := by
  intro q
  induction q with
  | nil =>
    intro p v i hi h0 h1 h2
    subst hi
    refine Ev.step (fun k => by rw [laws_heldKeeperS.l0]) ?_
    exact EvKit.itf (by simp [markKeeperL]) (EvKit.ret (by simp))
  | cons x q ih =>
    intro p v i hi h0 h1 h2
    subst hi
    simp only [List.length_cons] at h1 h2
    have e1 : wrap64 (v + 1) = v + 1 := EvKit.w64 (by omega) (by omega)
    have e2 : wrap64 (v + 2) = v + 2 := EvKit.w64 (by omega) (by omega)
    have e3 : wrap64 (v + 3) = v + 3 := EvKit.w64 (by omega) (by omega)
    have e4 : wrap64 (v + 4) = v + 4 := EvKit.w64 (by omega) (by omega)
    have e5 : wrap64 (v + 5) = v + 5 := EvKit.w64 (by omega) (by omega)
    have ep : wrap64 ((p.length : Int) + 1) = (p.length : Int) + 1 := EvKit.w64 (by omega) (by omega)
    simp only [markKeeperL]
    refine Ev.step (fun k => by rw [laws_heldKeeperS.l0]) ?_
    refine EvKit.itt (by simp only [List.length_append, List.length_cons]; omega) (EvKit.itt (by omega) ?_)
    simp only [rd_T44_at, ListKit.w64w, Int.add_assoc, Int.reduceAdd, e1, e2, e3, e4, e5, ep, bne_self_eq_false, Bool.false_eq_true, ↓reduceIte]
    rw [ListKit.shift p _ (markKeeperL (v + 5) q)]
    refine EvKit.ev_to (ih (p ++ [_]) (v + 5) (p.length + 1) (by simp) (by omega) (by omega) (by simp only [List.length_append, List.length_cons, List.length_nil]; omega)) ?_
    simp only [List.length_cons]
    omega
theorem laws_heldKeeperS.ev (l : List S44) (v : Int) (h0 : 0 ≤ v) (h1 : v + 5 * (l.length : Int) ≤ 4611686018427387904) : Ev (fun k => laws_heldKeeperS.f k (markKeeperL v l) v) (v + 5 * (l.length : Int)) := by
  unfold laws_heldKeeperS.f
  exact laws_heldKeeperS.ev_l l [] v 0 rfl h0 h1 (by simp; omega)

theorem rd_T47_at2 (p : List S47) (x : S47) (q : List S47) : rd_T47 (p ++ x :: q) (p.length : Int) = x := by simp [rd_T47]
theorem laws_heldKeeperHostS.ev_l : ∀ (q p : List S47) (v : Int) (i : Nat), i = p.length → 0 ≤ v → v + 6 * (q.length : Int) + 5 * (savedSz q : Int) ≤ 4611686018427387904 → p.length + q.length ≤ 4611686018427387904 →
    Ev (fun k => laws_heldKeeperHostS.l0 k (p ++ markHostL v q) v (i : Int)) (v + 6 * (q.length : Int) + 5 * (savedSz q : Int)) := by
  intro q
  induction q with
  | nil =>
    intro p v i hi h0 h1 h2
    subst hi
    refine Ev.step (fun k => by rw [laws_heldKeeperHostS.l0]) ?_
    exact EvKit.itf (by simp [markHostL]) (EvKit.ret (by simp [savedSz]))
  | cons x q ih =>
    intro p v i hi h0 h1 h2
    subst hi
    simp only [List.length_cons, savedSz] at h1 h2
    have e1 : Aside0 (wrap64 (v + 1) = v + 1) := ⟨EvKit.w64 (by omega) (by omega)⟩
    have e2 : Aside0 (wrap64 (v + 2) = v + 2) := ⟨EvKit.w64 (by omega) (by omega)⟩
    have e3 : Aside0 (wrap64 (v + 3) = v + 3) := ⟨EvKit.w64 (by omega) (by omega)⟩
    have e4 : Aside0 (wrap64 (v + 4) = v + 4) := ⟨EvKit.w64 (by omega) (by omega)⟩
    have e5 : Aside0 (wrap64 (v + 5) = v + 5) := ⟨EvKit.w64 (by omega) (by omega)⟩
    have e6 : Aside0 (wrap64 (v + 5 + 5 * (x.f1.length : Int) + 1) = v + 6 + 5 * (x.f1.length : Int)) := ⟨by rw [EvKit.w64 (by omega) (by omega)]; omega⟩
    have ep : Aside0 (wrap64 ((p.length : Int) + 1) = (p.length : Int) + 1) := ⟨EvKit.w64 (by omega) (by omega)⟩
    simp only [markHostL]
    refine Ev.step (fun k => by rw [laws_heldKeeperHostS.l0, rd_T47_at2]) ?_
    refine EvKit.itt (by simp only [List.length_append, List.length_cons]; omega) (EvKit.itt (by omega) ?_)
    dsimp only
    have e12 : Aside0 (wrap64 (wrap64 (v + 1) + 1) = v + 2) := ⟨by rw [e1.out, show v + 1 + 1 = v + 2 by omega, e2.out]⟩
    have e13 : Aside0 (wrap64 (wrap64 (wrap64 (v + 1) + 1) + 1) = v + 3) := ⟨by rw [e12.out, show v + 2 + 1 = v + 3 by omega, e3.out]⟩
    have e14 : Aside0 (wrap64 (wrap64 (wrap64 (wrap64 (v + 1) + 1) + 1) + 1) = v + 4) := ⟨by rw [e13.out, show v + 3 + 1 = v + 4 by omega, e4.out]⟩
    have e15 : Aside0 (wrap64 (wrap64 (wrap64 (wrap64 (wrap64 (v + 1) + 1) + 1) + 1) + 1) = v + 5) := ⟨by rw [e14.out, show v + 4 + 1 = v + 5 by omega, e5.out]⟩
    refine EvKit.itt rfl (EvKit.itt e1.out.symm (EvKit.itt e12.out.symm (EvKit.itt e13.out.symm (EvKit.itt e14.out.symm ?_))))
    rw [e15.out]
    refine Ev.bind (laws_heldKeeperS.ev x.f1 (v + 5) (by omega) (by omega)) (EvKit.itf (by omega) (EvKit.itt rfl ?_))
    rw [e6.out, ep.out, ListKit.shift p _ (markHostL (v + 6 + 5 * (x.f1.length : Int)) q)]
    refine EvKit.ev_to (ih (p ++ [_]) (v + 6 + 5 * (x.f1.length : Int)) (p.length + 1) (by simp) (by omega) (by omega) (by simp only [List.length_append, List.length_cons, List.length_nil]; omega)) ?_
    simp only [List.length_cons, savedSz]
    omega
theorem laws_heldKeeperHostS.ev (l : List S47) (v : Int) (h0 : 0 ≤ v) (h1 : v + 6 * (l.length : Int) + 5 * (savedSz l : Int) ≤ 4611686018427387904) : Ev (fun k => laws_heldKeeperHostS.f k (markHostL v l) v) (v + 6 * (l.length : Int) + 5 * (savedSz l : Int)) := by
  unfold laws_heldKeeperHostS.f
  exact laws_heldKeeperHostS.ev_l l [] v 0 rfl h0 h1 (by simp; omega)

theorem rd_at_ (p : List Int) (x : Int) (q : List Int) (i : Nat) (hi : i = p.length) : rd (p ++ x :: q) (i : Int) = x := by subst hi; simp [rd]

/-! ### eqIntS -/
theorem laws_eqIntS.ev_l (l : List Int) (hl : l.length ≤ 9223372036854775806) : ∀ (d i : Nat), l.length - i = d → i ≤ l.length → Ev (fun k => laws_eqIntS.l0 k l l (i : Int)) true := by
  intro d
  induction d with
  | zero =>
    intro i hd hi
    refine Ev.step (fun k => by rw [laws_eqIntS.l0]) ?_
    exact EvKit.itf (by omega) (EvKit.ret rfl)
  | succ d ih =>
    intro i hd hi
    refine Ev.step (fun k => by rw [laws_eqIntS.l0]) ?_
    refine EvKit.itt (by omega) (EvKit.itt (by omega) (EvKit.itt (by omega) (EvKit.itt rfl ?_)))
    rw [EvKit.w64 (n := (i : Int) + 1) (by omega) (by omega)]
    exact ih (i + 1) (by omega) (by omega)
theorem laws_eqIntS.ev (l : List Int) (hl : l.length ≤ 9223372036854775806) : Ev (fun k => laws_eqIntS.f k l l) true := by
  unfold laws_eqIntS.f
  exact EvKit.itt rfl (laws_eqIntS.ev_l l hl _ 0 rfl (by omega))

/-! ### lists of numbers: toIntS, eqIntS -/
theorem laws_toIntS.ev_l : ∀ (q p : List Int) (i : Nat), i = p.length → p.length + q.length ≤ 4611686018427387904 →
    Ev (fun k => laws_toIntS.l0 k (p ++ q) (p ++ List.replicate q.length 0) (i : Int)) (p ++ q) := by
  intro q
  induction q with
  | nil =>
    intro p i hi h
    refine Ev.step (fun k => by rw [laws_toIntS.l0]) ?_
    exact EvKit.itf (by simp; omega) (EvKit.ret (by simp))
  | cons x q ih =>
    intro p i hi h
    simp only [List.length_cons] at h
    refine Ev.step (fun k => by rw [laws_toIntS.l0]) ?_
    refine EvKit.itt (by simp only [List.length_append, List.length_cons]; omega) (EvKit.itt (by omega) ?_)
    rw [rd_at_ p x q i hi]
    refine EvKit.itt (by simp only [List.length_append, List.length_replicate, List.length_cons]; omega) ?_
    rw [EvKit.w64 (n := (i : Int) + 1) (by omega) (by omega)]
    have e : (p ++ List.replicate (x :: q).length 0).set (i : Int).toNat x = (p ++ [x]) ++ List.replicate q.length 0 := by
      rw [List.length_cons, List.replicate_succ]
      have h2 := ListKit.set_at p 0 x (List.replicate q.length 0)
      rw [← hi] at h2
      rw [h2]
      simp
    have e2 : p ++ x :: q = (p ++ [x]) ++ q := by simp
    refine EvKit.ev_to (Ev.congr (fun k => ?_) (ih (p ++ [x]) (i + 1) (by simp; omega) (by simp only [List.length_append, List.length_cons, List.length_nil]; omega))) (by rw [e2])
    rw [← e, ← e2]
    rfl
theorem laws_toIntS.ev (l : List Int) (hl : l.length ≤ 1048576) : Ev (fun k => laws_toIntS.f k l) l := by
  unfold laws_toIntS.f
  exact EvKit.itt (by omega) (EvKit.itt (by omega) (laws_toIntS.ev_l l [] 0 rfl (by simp; omega)))

/-! ### markIntS -/
def markIntL : Int → List Int → List Int
  | _, [] => []
  | v, _ :: l => v :: markIntL (v + 1) l
theorem laws_markIntS.ev_l : ∀ (q p : List Int) (v : Int) (i : Nat), i = p.length → 0 ≤ v → v + (q.length : Int) ≤ 4611686018427387904 → p.length + q.length ≤ 4611686018427387904 →
    Ev (fun k => laws_markIntS.l0 k (p ++ q) v (i : Int)) (v + (q.length : Int), p ++ markIntL v q) := by
  intro q
  induction q with
  | nil =>
    intro p v i hi h0 h1 h2
    subst hi
    refine Ev.step (fun k => by rw [laws_markIntS.l0]) ?_
    exact EvKit.itf (by simp) (EvKit.ret (by simp [markIntL]))
  | cons x q ih =>
    intro p v i hi h0 h1 h2
    subst hi
    simp only [List.length_cons] at h1 h2
    have e1 : wrap64 (v + 1) = v + 1 := EvKit.w64 (by omega) (by omega)
    have ep : wrap64 ((p.length : Int) + 1) = (p.length : Int) + 1 := EvKit.w64 (by omega) (by omega)
    refine Ev.step (fun k => by rw [laws_markIntS.l0]) ?_
    refine EvKit.itt (by simp only [List.length_append, List.length_cons]; omega) (EvKit.itt (by omega) ?_)
    simp only [ListKit.set_at, e1, ep]
    rw [ListKit.shift p _ q]
    refine EvKit.ev_to (ih (p ++ [_]) (v + 1) (p.length + 1) (by simp) (by omega) (by omega) (by simp only [List.length_append, List.length_cons, List.length_nil]; omega)) ?_
    simp only [markIntL, List.append_assoc, List.cons_append, List.nil_append, List.length_cons]
    refine Prod.ext ?_ rfl
    show v + 1 + (q.length : Int) = v + ((q.length + 1 : Nat) : Int)
    omega
theorem laws_markIntS.ev (l : List Int) (v : Int) (h0 : 0 ≤ v) (h1 : v + (l.length : Int) ≤ 4611686018427387904) : Ev (fun k => laws_markIntS.f k l v) (v + (l.length : Int), markIntL v l) := by
  unfold laws_markIntS.f
  exact laws_markIntS.ev_l l [] v 0 rfl h0 h1 (by simp; omega)

end Go.Proofs.Ytpgmghghpliapaa.QFnExactMakeVault
