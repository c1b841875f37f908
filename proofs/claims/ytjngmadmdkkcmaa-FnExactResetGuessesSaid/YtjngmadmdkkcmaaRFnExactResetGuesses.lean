/- The arguments of FnExactResetGuesses as values: what a reading of them gives; and the pure statement. Conditions: none beyond those in each theorem. -/
import Derived.Test.YtjngmadmdkkcmaaPFnExactResetGuessesx7
import Derived.ChangeArms
import Derived.ChangeSlices
import Derived.ChangeStays
import Derived.WideShapes
import Derived.Carry
set_option linter.unusedVariables false
namespace Go.Proofs.Ytjngmadmdkkcmaa.RFnExactResetGuesses
open Go.RowKit Go.ChangeShapes Go.WideShapes Go.Proofs.Ytjngmadmdkkcmaa.PFnExactResetGuesses Go.Proofs.YtjngmadmdkkcmaaW.PrintWords
namespace Opn
/-- What is read at type t is of kind d, and ok. -/
structure Opn {α : Type} (P : Program) (d : Kd α) (t : TypeId) (ok : α → Prop) : Prop where
  size : P.cellsOf t = d.sz
  get : ∀ {H : Type} {enc : TypeId × Value → H} {w : World} {fuel : Nat} {cs : List Value} {x : DataW H × List MemPlace},
    DataW.trod enc P w 0 (fun _ => true) true fuel t cs = some x → ∃ y, d.K w y cs ∧ ok y

section
variable {P : Program}
theorem int {t : TypeId} {k : IntKind} (ht : P.underlying t = some (.int k)) (hc : P.cellsOf t = 1) : Opn P (Kd.int k) t (fun n => (Lit.int k n).wf = true) :=
  ⟨hc, fun h => by
    obtain ⟨n, rfl, _, hw⟩ := DataW.trod_int ht h
    exact ⟨n, rfl, hw⟩⟩
theorem bool {t : TypeId} (ht : P.underlying t = some .bool) (hc : P.cellsOf t = 1) : Opn P Kd.bool t (fun _ => True) :=
  ⟨hc, fun h => by
    obtain ⟨n, rfl, _⟩ := DataW.trod_bool ht h
    exact ⟨n, rfl, trivial⟩⟩
theorem string {t : TypeId} (ht : P.underlying t = some .string) (hc : P.cellsOf t = 1) : Opn P Kd.string t (fun s => s.size ≤ maxLen) :=
  ⟨hc, fun h => by
    obtain ⟨s, rfl, _, hs⟩ := DataW.trod_string ht h
    exact ⟨s, rfl, hs⟩⟩
theorem slice {α : Type} {d : Kd α} {ok : α → Prop} {t e : TypeId} (ht : P.underlying t = some (.slice e)) (hc : P.cellsOf t = 1) (he : Opn P d e ok) :
    Opn P (Kd.slice e d) t (fun l => l.length ≤ maxLen ∧ ∀ x ∈ l, ok x) :=
  ⟨hc, fun {H enc w fuel cs x} h => by
    rcases DataW.trod_slice ht h with ⟨rfl, _⟩ | ⟨a, len, cap, elems, rest, n, _, rfl, _, _, hl, hm, hlen, hel, _, _⟩
    · exact ⟨[], ⟨none, 0, rfl, Nat.le_refl _, rfl, Nat.zero_le _, fun h => absurd h (by simp)⟩, Nat.zero_le _, fun x hx => by cases hx⟩
    · have each : ∀ i, i < len → ∃ (y : α) (c : List Value), d.K w y c ∧ ok y ∧ ∀ j u, c[j]? = some u → w.cell? (a.add (i * d.sz + j)) = some u := by
        intro i hi
        have h1 := hel i hi
        rw [List.getElem?_eq_getElem (by omega), he.size, Option.bind_eq_some_iff] at h1
        obtain ⟨c, hcs, ht'⟩ := h1
        obtain ⟨y, hy, ho⟩ := he.get ht'
        obtain ⟨_, hcl, hat⟩ := World.cells?_some hcs
        refine ⟨y, c, hy, ho, fun j u hj => ?_⟩
        have hjl : j < c.length := (List.getElem?_eq_some_iff.1 hj).1
        have h2 := hat j (by omega)
        have h3 : (a.add (i * d.sz)).add j = a.add (i * d.sz + j) := by
          unfold Addr.add
          by_cases h1 : i * d.sz = 0 <;> by_cases h2 : j = 0 <;> simp [h1, h2, Nat.add_assoc]
        rw [h3] at h2
        rw [h2, hj]
      have all : ∀ n, n ≤ len → ∃ l : List α, l.length = n ∧ ∀ (i : Nat) (y : α), l[i]? = some y → ok y ∧ ∃ c : List Value, d.K w y c ∧ ∀ j u, c[j]? = some u → w.cell? (a.add (i * d.sz + j)) = some u := by
        intro n
        induction n with
        | zero => intro _; exact ⟨[], rfl, fun i y h => by simp at h⟩
        | succ n ih =>
          intro hn
          obtain ⟨l, h1, h2⟩ := ih (by omega)
          obtain ⟨y, c, h3, h4, h5⟩ := each n (by omega)
          refine ⟨l ++ [y], by simp [h1], fun i z hz => ?_⟩
          by_cases hi : i < n
          · rw [List.getElem?_append_left (by omega)] at hz
            exact h2 i z hz
          · have hi2 : i = n := by
              have := (List.getElem?_eq_some_iff.1 hz).1
              simp at this
              omega
            subst hi2
            rw [List.getElem?_append_right (by omega), h1, Nat.sub_self] at hz
            simp at hz
            subst hz
            exact ⟨h4, c, h3, h5⟩
      obtain ⟨l, h1, h2⟩ := all len (Nat.le_refl _)
      subst h1
      refine ⟨l, ⟨some a, cap, rfl, hl, rfl, by unfold maxLen at hm; omega, fun _ => ⟨a, rfl, fun j p hj => ?_⟩⟩, by omega, fun x hx => ?_⟩
      · obtain ⟨_, c, h3, h4⟩ := h2 j p hj
        exact ⟨c, d.K_len h3, h3, h4⟩
      · obtain ⟨i, hi⟩ := List.getElem?_of_mem hx
        exact (h2 i x hi).1⟩
theorem iso {α β : Type} {d : Kd α} {f : β → α} {g : α → β} {t : TypeId} {ok : α → Prop} (h : Opn P d t ok) (hfg : ∀ x, f (g x) = x) : Opn P (Kd.iso d f) t (fun y => ok (f y)) :=
  ⟨h.size, fun ht => by
    obtain ⟨y, h1, h2⟩ := h.get ht
    exact ⟨g y, by show d.K _ (f (g y)) _; rw [hfg]; exact h1, by rw [hfg]; exact h2⟩⟩

/-- A struct's cells from a field's place on: the fields in line. -/
structure Line {α : Type} (P : Program) (d : Kd α) (fs : List Field) (off : Nat) (ok : α → Prop) : Prop where
  get : ∀ {H : Type} {enc : TypeId × Value → H} {w : World} {n : Nat} {cs : List Value}, cs.length = off + d.sz →
    (∀ f ∈ fs, ∃ x : DataW H × List MemPlace, DataW.trod enc P w 0 (fun _ => true) true n f.type ((cs.drop f.offset).take (P.cellsOf f.type)) = some x) → ∃ y, d.K w y (cs.drop off) ∧ ok y
theorem line_one {α : Type} {d : Kd α} {f : Field} {off : Nat} {ok : α → Prop} (h : Opn P d f.type ok) (ho : f.offset = off) : Line P d [f] off ok :=
  ⟨fun {H enc w n cs} hl hf => by
    obtain ⟨x, hx⟩ := hf f (by simp)
    rw [ho, h.size, List.take_of_length_le (by simp; omega)] at hx
    exact h.get hx⟩
theorem line_cons {α β : Type} {d : Kd α} {d' : Kd β} {f : Field} {fs : List Field} {off : Nat} {ok : α → Prop} {ok' : β → Prop} (h : Opn P d f.type ok) (ho : f.offset = off) (h' : Line P d' fs (off + d.sz) ok') :
    Line P (Kd.pair d d') (f :: fs) off (fun y => ok y.1 ∧ ok' y.2) :=
  ⟨fun {H enc w n cs} hl hf => by
    obtain ⟨x, hx⟩ := hf f (by simp)
    rw [ho, h.size] at hx
    obtain ⟨y, h1, h2⟩ := h.get hx
    have hl' : cs.length = off + (d.sz + d'.sz) := hl
    obtain ⟨y', h3, h4⟩ := h'.get (cs := cs) (by omega) (fun g hg => hf g (by simp [hg]))
    refine ⟨(y, y'), ⟨_, _, ?_, h1, h3⟩, h2, h4⟩
    rw [← List.drop_drop]
    exact (List.take_append_drop d.sz (cs.drop off)).symm⟩
theorem struct {α : Type} {d : Kd α} {t : TypeId} {fs : Array Field} {ok : α → Prop} (ht : P.underlying t = some (.struct fs)) (hc : P.cellsOf t = d.sz) (h : Line P d fs.toList 0 ok) : Opn P d t ok :=
  ⟨hc, fun {H enc w fuel cs x} hx => by
    obtain ⟨xs, n, _, _, hl, hxs, hf⟩ := DataW.trod_struct ht hx
    have := h.get (cs := cs) (enc := enc) (w := w) (n := n) (by rw [hl, hc]; simp) (fun f hfm => by
      obtain ⟨i, hi⟩ := List.getElem?_of_mem hfm
      have hi' : fs[i]? = some f := by simpa using hi
      have hil : i < fs.size := (Array.getElem?_eq_some_iff.1 hi').1
      exact ⟨xs[i]'(by omega), by rw [hf i f hi']; exact List.getElem?_eq_getElem (by omega)⟩)
    simpa using this⟩
end
end Opn
def ok42 (x : S42) : Prop := (Lit.int .i64 x.f0).wf = true ∧ (Lit.int .i64 x.f1).wf = true
theorem o42 : Opn.Opn Try.prog k42 42 ok42 :=
  Opn.iso (d := (Kd.pair (Kd.int .i64) (Kd.int .i64))) (g := fun p => ⟨p.1, p.2⟩) (Opn.struct Try.underlying42 (by kernel_rfl) (Opn.line_cons (Opn.int Try.underlying3 (by kernel_rfl)) rfl (Opn.line_one (Opn.int Try.underlying3 (by kernel_rfl)) rfl))) (fun _ => rfl)
def ok44 (x : S44) : Prop := ok42 x.f0 ∧ (Lit.int .i64 x.f1).wf = true ∧ (Lit.int .i64 x.f2).wf = true ∧ (Lit.int .i64 x.f3).wf = true
theorem o44 : Opn.Opn Try.prog k44 44 ok44 :=
  Opn.iso (d := (Kd.pair k42 (Kd.pair (Kd.int .i64) (Kd.pair (Kd.int .i64) (Kd.int .i64))))) (g := fun p => ⟨p.1, p.2.1, p.2.2.1, p.2.2.2⟩) (Opn.struct Try.underlying44 (by kernel_rfl) (Opn.line_cons o42 rfl (Opn.line_cons (Opn.int Try.underlying3 (by kernel_rfl)) rfl (Opn.line_cons (Opn.int Try.underlying3 (by kernel_rfl)) rfl (Opn.line_one (Opn.int Try.underlying3 (by kernel_rfl)) rfl))))) (fun _ => rfl)
/-- THE PURE STATEMENT of FnExactResetGuesses. -/
def Pure : Prop := ∀ (a0_0 : Int) (a0_1 : Int) (a0_2 : Int) (a0_3 : Int) (a0_4 : Int) (l0_5 : (List S44)) (a0_6 : Int) (a1_0 : Int) (a1_1 : Int), (Lit.int .i64 a0_0).wf = true → (Lit.int .i64 a0_1).wf = true → (Lit.int .i64 a0_2).wf = true → (Lit.int .i64 a0_3).wf = true → (Lit.int .i64 a0_4).wf = true → (l0_5.length ≤ maxLen ∧ ∀ y ∈ l0_5, ok44 y) → (Lit.int .i64 a0_6).wf = true → (Lit.int .i64 a1_0).wf = true → (Lit.int .i64 a1_1).wf = true → ∃ k, laws_FnExactResetGuesses.f k a0_0 a0_1 a0_2 a0_3 a0_4 l0_5 a0_6 a1_0 a1_1 = some true
theorem walk (P : Pure) (a0_0 : Int) (a0_1 : Int) (a0_2 : Int) (a0_3 : Int) (a0_4 : Int) (l0_5 : (List S44)) (a0_6 : Int) (a1_0 : Int) (a1_1 : Int) (A0_5 : Option Addr) (c0_5 : Nat) (w : World) (w0_0 : (Lit.int .i64 a0_0).wf = true) (w0_1 : (Lit.int .i64 a0_1).wf = true) (w0_2 : (Lit.int .i64 a0_2).wf = true) (w0_3 : (Lit.int .i64 a0_3).wf = true) (w0_4 : (Lit.int .i64 a0_4).wf = true) (hr0_5 : Kd.C k44 w A0_5 l0_5.length l0_5) (hc0_5 : l0_5.length ≤ c0_5) (w0_5 : (l0_5.length ≤ maxLen ∧ ∀ y ∈ l0_5, ok44 y)) (w0_6 : (Lit.int .i64 a0_6).wf = true) (w1_0 : (Lit.int .i64 a1_0).wf = true) (w1_1 : (Lit.int .i64 a1_1).wf = true) :
    Calls Try.prog 6 #[.agg #[.int .i64 a0_0, .int .i64 a0_1, .int .i64 a0_2, .int .i64 a0_3, .int .i64 a0_4, .slice A0_5 l0_5.length c0_5, .int .i64 a0_6], .agg #[.int .i64 a1_0, .int .i64 a1_1]] w fun e w' => e = .returned (.bool true) ∧ Below w.heap.size w w' := by
  obtain ⟨k, h⟩ := P a0_0 a0_1 a0_2 a0_3 a0_4 l0_5 a0_6 a1_0 a1_1 w0_0 w0_1 w0_2 w0_3 w0_4 w0_5 w0_6 w1_0 w1_1
  refine (laws_FnExactResetGuesses.calls (k := k) (a0_0 := a0_0) (a0_1 := a0_1) (a0_2 := a0_2) (a0_3 := a0_3) (a0_4 := a0_4) (A0_5 := A0_5) (c0_5 := c0_5) (l0_5 := l0_5) (a0_6 := a0_6) (a1_0 := a1_0) (a1_1 := a1_1) (hr0_5 := hr0_5) (hc0_5 := hc0_5) (hT := ⟨rfl⟩) (w := w) (h := h)).mono ?_
  rintro e w' ⟨rfl, hd⟩
  exact ⟨rfl, hd⟩
end Go.Proofs.Ytjngmadmdkkcmaa.RFnExactResetGuesses
