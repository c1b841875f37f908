-- Made by a program of this session, after the kit's print of the translation. Lean checks it.
import Derived.Test.YtkmndimmglghoaaPFnExactFetchLogx0
import Derived.Test.YtkmndimmglghoaaPFnExactFetchLogx3
import Derived.Test.YtkmndimmglghoaaPFnExactFetchLogx4
namespace Go.Proofs.Ytkmndimmglghoaa.PFnExactFetchLog
open Go.RowKit Go.Proofs.YtkmndimmglghoaaW.PrintWords Go.Proofs.YtkmndimmglghoaaW.PrintLast Go.Proofs.YtkmndimmglghoaaW.PrintMore
attribute [local go_sem] max2_int min2_int max_two min_two max_three min_three max_four min_four   -- for this text's walks alone
set_option linter.unusedVariables false
set_option linter.unusedSimpArgs false

/-! ### laws_markByteS: function 108 -/
def laws_markByteS.l0 : Nat → List Int → Int → Int → Option (Int × List Int)
  | 0, _, _, _ => none
  | k + 1, x0, x1, x5 => if x5 < (x0.length : Int) then (if 0 ≤ x5 then (laws_markByteS.l0 k (x0.set (x5 : Int).toNat ((x1) % 256)) (wrap64 (x1 + 1)) (wrap64 (x5 + 1))) else (none)) else (some (x1, x0))
def laws_markByteS.f (k : Nat) (l0 : List Int) (a1 : Int) : Option (Int × List Int) := laws_markByteS.l0 k l0 a1 0
theorem laws_markByteS.mono_l : ∀ k, (∀ y0 y1 y2, LeO (laws_markByteS.l0 k y0 y1 y2) (laws_markByteS.l0 (k + 1) y0 y1 y2))
  | 0 => fun _ _ _ r h => by simp [laws_markByteS.l0] at h
  | k + 1 => by
    have ih0 := laws_markByteS.mono_l k
    · intro y0 y1 y2
      unfold laws_markByteS.l0
      repeat' first
      | (with_reducible exact ih0 _ _ _)
      | (with_reducible exact LeO.refl _)
      | (with_reducible exact LeO.none _)
      | (with_reducible refine LeO.ite ?_ ?_)
      | (with_reducible refine LeO.bind ?_ (fun _ => ?_))
      | exact ih0 _ _ _
      | exact LeO.none _
      | refine LeO.ite ?_ ?_
      | refine LeO.bind ?_ (fun _ => ?_)
theorem laws_markByteS.mono : ∀ a0 a1 k, LeO (laws_markByteS.f k a0 a1) (laws_markByteS.f (k + 1) a0 a1) := by
  intro a0 a1 k
  have ih0 := laws_markByteS.mono_l k
  unfold laws_markByteS.f
  repeat' first
      | (with_reducible exact ih0 _ _ _)
      | (with_reducible exact LeO.refl _)
      | (with_reducible exact LeO.none _)
      | (with_reducible refine LeO.ite ?_ ?_)
      | (with_reducible refine LeO.bind ?_ (fun _ => ?_))
      | exact ih0 _ _ _
      | exact LeO.none _
      | refine LeO.ite ?_ ?_
      | refine LeO.bind ?_ (fun _ => ?_)
set_option maxHeartbeats 8000000 in
set_option maxRecDepth 100000 in
theorem laws_markByteS.calls (k : Nat) (P0_ : Nat → Prop) (u9000_ : Value) (l0 : List Int) (a1 : Int) (r1 : Int) (r2 : List Int) (w0 w : World) (hB : Below w0.heap.size w0 w) (ho0 : Kd.R (Kd.int .u8) 5 w w0.heap.size P0_ u9000_ l0) (h : laws_markByteS.f k l0 a1 = some (r1, r2)) :
    Calls Try.prog 108 #[u9000_, .int .i64 a1] w fun e w' => e = .returned (.int .i64 r1) ∧ Kd.R (Kd.int .u8) 5 w' w0.heap.size (fun k_ => (P0_ k_ ∨ w.heap.size ≤ k_)) u9000_ r2 ∧ Below w0.heap.size w0 w' ∧ Kept w w' (fun k_ => P0_ k_) := by
  have HO0 := Aside0.mk (show Kd.R (Kd.int .u8) 5 w w0.heap.size (fun k_ => (P0_ k_ ∨ w.heap.size ≤ k_)) u9000_ l0 from Kd.R_mono ho0 (fun k_ hk => (.inl hk)))
  have HK := Aside0.mk (Kept.refl w (fun k_ => P0_ k_))
  have HW0 := Aside0.mk hB.size
  have HB := Aside0.mk hB
  clear hB
  have H : (laws_markByteS.l0 k l0 a1 0) = some (r1, r2) := h
  clear h
  have H' := Aside0.mk H
  clear H
  go_enter Try.func108, Try.ntmps108
  go_wp2
  go_loopg [1, 5] k (fun kq v1 v5 w' => ∃ (x0_1 : List Int) (x1_1 : Int) (x5_1 : Int), v1 = .int .i64 x1_1 ∧ v5 = .int .i64 x5_1 ∧ Aside0 (laws_markByteS.l0 kq x0_1 x1_1 x5_1 = some (r1, r2)) ∧ Aside0 (kq ≤ k) ∧ Aside0 (Kd.R (Kd.int .u8) 5 w' w0.heap.size (fun k_ => (P0_ k_ ∨ w.heap.size ≤ k_)) u9000_ x0_1) ∧ Aside0 (Kept w w' (fun k_ => P0_ k_)) ∧ Aside0 (Below w0.heap.size w0 w'))
  case atStart => exact ⟨(l0), (a1), (0), (by first | rfl | (simp; done) | (simp [*]; done)), (by first | rfl | (simp; done) | (simp [*]; done)), H', ⟨Nat.le_refl _⟩, ⟨by (with_reducible repeat (first | apply Kd.R_alloc | apply Kd.R_drewN | apply Kd.R_drew)); exact HO0.out⟩, ⟨by repeat (first | (with_reducible first | exact HK.out | apply Kept.alloc | apply Kept.drewN | apply Kept.drew) | exact HK.out)⟩, ⟨by repeat (first | (with_reducible first | exact HB.out | apply below_alloc | apply pw_below_drewN | apply below_drew1) | exact HB.out)⟩⟩
  case round =>
    clear H'
    try clear c1
    try clear p2
    obtain ⟨x0_1, x1_1, x5_1, rfl, rfl, HA, HK1, HO_0, HK, HB⟩ := hrel
    cases gk with
    | zero => exact absurd HA.out (by simp [laws_markByteS.l0])
    | succ k1 =>
      have H := HA.out
      clear HA
      simp only [laws_markByteS.l0] at H
      by_cases c3 : x5_1 < (x0_1.length : Int)
      · rw [if_pos c3] at H
        have c3b0 : decide (x5_1 < (x0_1.length : Int)) = true := decide_eq_true c3
        clear c3
        by_cases c4 : 0 ≤ x5_1
        · rw [if_pos c4] at H
          have c4b0 : decide (0 ≤ x5_1) = true := decide_eq_true c4
          clear c4
          obtain ⟨y220, hy220⟩ : ∃ y_ : List Int, y_ = (x0_1.set (x5_1 : Int).toNat ((x1_1) % 256)) := ⟨_, rfl⟩
          replace H : (laws_markByteS.l0 k1 y220 (wrap64 (x1_1 + 1)) (wrap64 (x5_1 + 1))) = some (r1, r2) := by first | (rw [hy220]; with_reducible exact H) | (have H2_ := (Option.bind_some _ _).symm.trans H; rw [hy220]; with_reducible exact H2_) | (have H2_ := (Option.bind_some _ _).symm.trans H; with_reducible exact H2_) | with_reducible exact H | (rw [hy220]; exact H) | exact H
          have Ny220 := Aside0.mk hy220
          clear hy220
          have H' := Aside0.mk H
          clear H
          obtain ⟨Ao6, co6, eo6⟩ := Kd.R_slice HO_0.out
          subst eo6
          have p5 : 0 ≤ (x5_1 : Int) := of_decide_eq_true (by first | (with_reducible assumption) | assumption)
          have q5 : (x5_1 : Int) < ((x0_1.length : Int) : Int) := of_decide_eq_true (by first | (with_reducible assumption) | assumption)
          obtain ⟨go5, co5, eo5, gb5, gl5, cl5, HG5⟩ := Kd.R_form HO_0.out (by omega)
          (first | cases eo5 | (injection eo5 with ea_ en_ ec_; (first | subst ea_ | (injection ea_ with ea_; subst ea_)); subst ec_; clear en_))
          have GB5 := Aside0.mk gb5
          have GG5 := Aside0.mk HG5
          clear gb5 gl5 HG5
          have HMgo5 := Aside0.mk (show (P0_ go5 ∨ w.heap.size ≤ go5) from (HO_0.out.1 _ rfl))
          obtain ⟨hx5_0, hf5_0⟩ := Kd.R_celln 0 HO_0.out (x5_1 : Int) p5 q5
          replace p5 := eq_true p5
          replace q5 := eq_true q5
          have HP7 := Kd.R_putg HO_0.out (x5_1 : Int) ((x1_1) % 256)
          go_wp2_with (first | ((with_reducible refine gate_store (t := 5) (p := 16) rfl ?_); refine store_event (t := 5) (p := 16) (v := ?vo_w8) (w1 := (wr.setCell ⟨go5, (x5_1 : Int).toNat, none⟩ (.int .u8 ((x1_1) % 256)))) ?hg ?ho ?hn ?hr ?_; (case ho => rfl); (case hg => rfl); (case hn => rfl); (case hr => first | (go_simp; done) | (go_simp; rfl)); intro w8 hw; have hg : wr.grownBy w8 (some go5) := (by rw [hw]; exact HP7.2); have hp_ : Kd.R (Kd.int .u8) 5 w8 w0.heap.size (fun k_ => (P0_ k_ ∨ w.heap.size ≤ k_)) (.slice (some ⟨go5, 0, none⟩) x0_1.length co6) y220 := (by rw [hw, Ny220.out]; exact HP7.1); clear HP7; have n0_ := Aside0.mk (hp_); have n1_ := Aside0.mk ((by rw [hw]; exact below_set (HB.out) GB5.out : Below w0.heap.size w0 w8)); have n2_ := Aside0.mk (Kept.of_grown (S := (fun k_ => P0_ k_)) hg (by repeat (first | (with_reducible first | exact HK.out | apply Kept.alloc | apply Kept.drewN | apply Kept.drew) | exact HK.out)) (fun k_ e_ => (HO_0.out.1 k_ e_))); clear HO_0; clear HB; clear HK; have HO_0 := n0_; have HB := n1_; have HK := n2_; clear n0_ n1_ n2_; clear hg hw hp_))
          go_roundg k1
          case measure => have := HK1.out; omega
          case rel => exact ⟨(y220), (wrap64 (x1_1 + 1)), (wrap64 (x5_1 + 1)), (by first | rfl | (simp; done) | (simp [*]; done)), (by first | rfl | (simp; done) | (simp [*]; done)), H', ⟨by have := HK1.out; omega⟩, ⟨by (with_reducible repeat (first | apply Kd.R_alloc | apply Kd.R_drewN | apply Kd.R_drew)); exact HO_0.out⟩, ⟨by repeat (first | (with_reducible first | exact HK.out | apply Kept.alloc | apply Kept.drewN | apply Kept.drew) | exact HK.out)⟩, ⟨by repeat (first | (with_reducible first | exact HB.out | apply below_alloc | apply pw_below_drewN | apply below_drew1) | exact HB.out)⟩⟩
        · rw [if_neg c4] at H
          exact absurd H (by simp)
      · rw [if_neg c3] at H
        have c3b0 : decide (x5_1 < (x0_1.length : Int)) = false := decide_eq_false c3
        clear c3
        simp only [Option.some.injEq, Prod.mk.injEq] at H
        obtain ⟨rfl, rfl⟩ := H
        obtain ⟨Ao9, co9, eo9⟩ := Kd.R_slice HO_0.out
        subst eo9
        go_wp2
        go_ret
        exact ⟨by first | rfl | (simp [errW_none, errW_some] <;> rfl) | (simp [*, errW_none, errW_some] <;> rfl), by (with_reducible repeat (first | apply Kd.R_alloc | apply Kd.R_drewN | apply Kd.R_drew)); exact HO_0.out, by repeat (first | (with_reducible first | exact HB.out | apply below_alloc | apply pw_below_drewN | apply below_drew1) | exact HB.out), by repeat (first | (with_reducible first | exact HK.out | apply Kept.alloc | apply Kept.drewN | apply Kept.drew) | exact HK.out)⟩


/-! ### one element of a row of one's own, lent and written -/
theorem nk_elem {α : Type} {d : Kd α} {e : Nat} {W : World} {base : Nat} {ok : Nat → Prop} {A : Option Addr} {n cap : Nat} {pre rest : List α} {x : α} {i : Int} (h : Kd.S d e W base ok (.slice A n cap) (pre ++ x :: rest)) (hi : pre.length = i.toNat) (h0 : 0 ≤ i) (z : α) :
    ∃ g, A = some ⟨g, 0, none⟩ ∧ base ≤ g ∧ ok g ∧ i < n ∧ ∃ (oki : Nat → Prop) (c : List Value), d.M W base oki x c ∧ (∀ k, oki k → ok k ∧ k ≠ g) ∧ Kd.H d e W base ok (.slice (some ⟨g, 0, none⟩) n cap) (pre ++ x :: rest) i oki c := by
  obtain ⟨g, cap', hv, hb, _, _⟩ := Kd.S_form h (by simp only [List.length_append, List.length_cons]; omega)
  injection hv with hA hn hc
  subst hA hn hc
  have hok : ok g := by
    obtain ⟨f, h1, _⟩ := h
    exact h1 g (by simp [Value.ownBlock])
  have hlt : i < ((pre ++ x :: rest).length : Int) := by simp only [List.length_append, List.length_cons]; omega
  obtain ⟨oki, c, _, hM, _, hoki, hH⟩ := Kd.S_lend h z i h0 hlt
  refine ⟨g, rfl, hb, hok, hlt, oki, c, ?_, hoki, hH⟩
  rw [show (pre ++ x :: rest).getD i.toNat z = x by rw [← hi]; simp [List.getD]] at hM
  exact hM
theorem nk_set {α : Type} {d : Kd α} {e : Nat} {W : World} {base : Nat} {ok oki : Nat → Prop} {g n cap : Nat} {xs : List α} {i : Int} {c c' : List Value} (h : Kd.H d e W base ok (.slice (some ⟨g, 0, none⟩) n cap) xs i oki c) (h0 : 0 ≤ i) (h1 : i < n) (j : Nat) (u : Value) (hu : u.oneCell' = true) (hj : j + 1 ≤ d.sz) (hc : c.take j ++ [u] ++ c.drop (j + 1) = c') (p : Nat) (hp : p = i.toNat * d.sz + j) :
    Kd.H d e (W.setCell ⟨g, p, none⟩ u) base ok (.slice (some ⟨g, 0, none⟩) n cap) xs i oki c' := by
  subst hp hc
  exact (Kd.H_seg h h0 h1 (seg := [u]) hj (fun q hq => by rw [List.mem_singleton.1 hq]; exact hu)).1
theorem nk_back {α : Type} {d : Kd α} {e : Nat} {W : World} {base : Nat} {ok oki : Nat → Prop} {v : Value} {pre rest : List α} {x x' : α} {i : Int} {c : List Value} (h : Kd.H d e W base ok v (pre ++ x :: rest) i oki c) (hi : pre.length = i.toNat) (hM : d.M W base oki x' c) :
    Kd.S d e W base ok v ((pre ++ [x']) ++ rest) := by
  have h2 := Kd.H_back h hM (fun _ hk => hk)
  rw [show (pre ++ x :: rest).set i.toNat x' = (pre ++ [x']) ++ rest by rw [← hi]; simp] at h2
  exact h2
/-! ### laws_markBoxS: function 129 (by a program of this session: rows inside elements) -/
def laws_markBoxS.go (k : Nat) : List S161 → Int → Option (Int × List S161)
  | [], v => some (v, [])
  | x :: l, v => (laws_markByteS.f k x.f2 (wrap64 ((wrap64 (v + 1)) + 1))).bind fun p => (laws_markBoxS.go k l (wrap64 (p.1 + 1))).bind fun q => some (q.1, (⟨v, wrap64 (v + 1), p.2, p.1⟩ : S161) :: q.2)
def laws_markBoxS.f (k : Nat) (l0 : List S161) (a1 : Int) : Option (Int × List S161) := if l0.length ≤ 9223372036854775806 then laws_markBoxS.go k l0 a1 else none
theorem laws_markBoxS.go_mono (k : Nat) : ∀ (l : List S161) (v : Int), LeO (laws_markBoxS.go k l v) (laws_markBoxS.go (k + 1) l v)
  | [], _ => LeO.refl _
  | x :: l, v => by
    unfold laws_markBoxS.go
    exact LeO.bind (laws_markByteS.mono _ _ _) (fun p => LeO.bind (laws_markBoxS.go_mono k l _) (fun _ => LeO.refl _))
theorem laws_markBoxS.mono : ∀ a0 a1 k, LeO (laws_markBoxS.f k a0 a1) (laws_markBoxS.f (k + 1) a0 a1) := by
  intro a0 a1 k
  unfold laws_markBoxS.f
  exact LeO.ite (laws_markBoxS.go_mono k _ _) (LeO.refl _)
set_option maxHeartbeats 8000000 in
set_option maxRecDepth 100000 in
theorem laws_markBoxS.calls (k : Nat) (P0_ : Nat → Prop) (u9000_ : Value) (l0 : List (S161)) (a1 : Int) (r1 : Int) (r2 : List (S161)) (w0 w : World) (hB : Below w0.heap.size w0 w) (ho0 : Kd.S k161 161 w w0.heap.size P0_ u9000_ l0) (h : laws_markBoxS.f k l0 a1 = some (r1, r2)) :
    Calls Try.prog 129 #[u9000_, .int .i64 a1] w fun e w' => e = .returned (.int .i64 r1) ∧ Kd.S k161 161 w' w0.heap.size (fun k_ => P0_ k_) u9000_ r2 ∧ Below w0.heap.size w0 w' ∧ Kept w w' (fun k_ => P0_ k_) := by
  have HO0 := Aside0.mk ho0
  have HK := Aside0.mk (Kept.refl w (fun k_ => P0_ k_))
  have HB := Aside0.mk hB
  clear hB ho0
  obtain ⟨hl, H⟩ : l0.length ≤ 9223372036854775806 ∧ laws_markBoxS.go k l0 a1 = some (r1, r2) := by
    unfold laws_markBoxS.f at h
    split at h
    · exact ⟨by assumption, h⟩
    · cases h
  clear h
  have HL := Aside0.mk hl
  have HA := Aside0.mk (show ∃ post, laws_markBoxS.go k (l0.drop (0 : Int).toNat) a1 = some (r1, post) ∧ r2 = [] ++ post from ⟨r2, H, rfl⟩)
  clear hl H
  obtain ⟨A0, c0, eu⟩ := Kd.S_slice HO0.out
  subst eu
  go_enter Try.func129, Try.ntmps129
  go_wp2
  go_loopg [1, 5] (l0.length + 1) (fun kq v1 v5 w' => ∃ (pre : List S161) (xv xi : Int), v1 = .int .i64 xv ∧ v5 = .int .i64 xi ∧ Aside0 ((kq : Int) + xi = (l0.length : Int) + 1 ∧ xi ≤ (l0.length : Int) ∧ 0 ≤ xi ∧ pre.length = xi.toNat) ∧ Aside0 (∃ post, laws_markBoxS.go k (l0.drop xi.toNat) xv = some (r1, post) ∧ r2 = pre ++ post) ∧ Aside0 (Kd.S k161 161 w' w0.heap.size P0_ (.slice A0 l0.length c0) (pre ++ l0.drop xi.toNat)) ∧ Aside0 (Kept w w' (fun k_ => P0_ k_)) ∧ Aside0 (Below w0.heap.size w0 w'))
  case atStart => exact ⟨[], a1, 0, rfl, rfl, ⟨by omega, by omega, by omega, rfl⟩, HA, ⟨by (with_reducible repeat (first | apply Kd.S_alloc | apply Kd.S_drewN | apply Kd.S_drew)); exact HO0.out⟩, ⟨by repeat (first | (with_reducible first | exact HK.out | apply Kept.alloc | apply Kept.drewN | apply Kept.drew) | exact HK.out)⟩, ⟨by repeat (first | (with_reducible first | exact HB.out | apply below_alloc | apply pw_below_drewN | apply below_drew1) | exact HB.out)⟩⟩
  case round =>
    clear HA HO0 HK HB
    obtain ⟨pre, xv, xi, rfl, rfl, HN, HA, HO, HK, HB⟩ := hrel
    have hi0 := HN.out.2.2.1
    by_cases hi : xi < (l0.length : Int)
    · cases gk with
      | zero => exact absurd HN.out.1 (by simp; omega)
      | succ k1 =>
        have hdec : decide (xi < (l0.length : Int)) = true := decide_eq_true hi
        have hil : xi.toNat < l0.length := by omega
        obtain ⟨x, hx⟩ : ∃ x, l0.drop xi.toNat = x :: l0.drop (xi.toNat + 1) := ⟨_, List.drop_eq_getElem_cons hil⟩
        have HO1 := HO.out
        rw [hx] at HO1
        obtain ⟨post, H, hr⟩ := HA.out
        rw [hx] at H
        unfold laws_markBoxS.go at H
        obtain ⟨⟨m_, rl_⟩, C1, H⟩ := Option.bind_eq_some_iff.mp H
        obtain ⟨⟨rq_, post2⟩, C2, H⟩ := Option.bind_eq_some_iff.mp H
        obtain ⟨rfl, rfl⟩ := Prod.mk.inj (Option.some.inj H)
        have HC := Aside0.mk C1
        have HD := Aside0.mk C2
        have HE := Aside0.mk hr
        clear C1 C2 H HA HO hr
        obtain ⟨go_, eA, hgb, hgo, hin, oki, ce_, hM, hoki, hH⟩ := nk_elem HO1 HN.out.2.2.2 hi0 z161
        subst eA
        obtain ⟨vr_, rfl, hr_⟩ := k161_openM hM
        obtain ⟨Ar, cr, rfl⟩ := Kd.R_slice hr_
        have HH := Aside0.mk hH
        have HR := Aside0.mk hr_
        have HKI := Aside0.mk hoki
        have HGB := Aside0.mk hgb
        have HGO := Aside0.mk hgo
        have HP := Aside0.mk (show 0 ≤ xi ∧ xi < ((l0.length : Nat) : Int) from ⟨hi0, hi⟩)
        have HXD := Aside0.mk hx
        clear HO1 hM hH hr_ hoki hgb hgo hin hx
        have hz_ := Kd.H_at HH.out HP.out.1 HP.out.2
        have hx0 : wr.cell? ⟨go_, xi.toNat * 4, none⟩ = some (.int .i64 x.f0) := hz_.1 0 _ rfl
        have hf0 : wr.frozen? ⟨go_, xi.toNat * 4, none⟩ = false := hz_.2 0
        have hx1 : wr.cell? ⟨go_, xi.toNat * 4 + 1, none⟩ = some (.int .i64 x.f1) := hz_.1 1 _ rfl
        have hf1 : wr.frozen? ⟨go_, xi.toNat * 4 + 1, none⟩ = false := hz_.2 1
        have hx2 : wr.cell? ⟨go_, xi.toNat * 4 + 2, none⟩ = some (.slice Ar x.f2.length cr) := hz_.1 2 _ rfl
        have hf2 : wr.frozen? ⟨go_, xi.toNat * 4 + 2, none⟩ = false := hz_.2 2
        have hx3 : wr.cell? ⟨go_, xi.toNat * 4 + 3, none⟩ = some (.int .i64 x.f3) := hz_.1 3 _ rfl
        have hf3 : wr.frozen? ⟨go_, xi.toNat * 4 + 3, none⟩ = false := hz_.2 3
        clear hz_
        have hp1 : (0 ≤ xi) = True := eq_true hi0
        have hp2 : (xi < (l0.length : Int)) = True := eq_true hi
        clear hi hi0 hil
        go_wp2_with (first | ((with_reducible refine gate_store (t := 3) (p := 16) rfl ?_); refine store_event (t := 3) (p := 16) (v := ?vo_wv1) (w1 := (wr.setCell ⟨go_, xi.toNat * 4, none⟩ (.int .i64 (xv)))) ?hg ?ho ?hn ?hr ?_; (case ho => rfl); (case hg => rfl); (case hn => rfl); (case hr => first | (go_simp; done) | (go_simp; rfl)); intro wv1 hw; have n0_ := Aside0.mk (by rw [hw]; exact nk_set HH.out HP.out.1 HP.out.2 0 _ rfl (by decide) rfl _ rfl : Kd.H k161 161 wv1 w0.heap.size P0_ (.slice (some ⟨go_, 0, none⟩) l0.length c0) (pre ++ x :: l0.drop (xi.toNat + 1)) xi oki [.int .i64 (xv), .int .i64 x.f1, .slice Ar x.f2.length cr, .int .i64 x.f3]); have n1_ := Aside0.mk (by rw [hw]; exact below_set HB.out HGB.out : Below w0.heap.size w0 wv1); have n2_ := Aside0.mk (by rw [hw]; exact Kept.setCell HK.out (.inl HGO.out) _ : Kept w wv1 (fun k_ => P0_ k_)); have n3_ := Aside0.mk (by rw [hw]; exact Kd.R_far (p := ⟨go_, xi.toNat * 4, none⟩) HR.out (fun k_ hk_ => (HKI.out k_ hk_).2) _ : Kd.R (Kd.int .u8) 5 wv1 w0.heap.size oki (.slice Ar x.f2.length cr) x.f2); clear hw HH HB HK HR hx0 hf0 hx1 hf1 hx2 hf2 hx3 hf3; have HH := n0_; have HB := n1_; have HK := n2_; have HR := n3_; clear n0_ n1_ n2_ n3_; have hz_ := Kd.H_at HH.out HP.out.1 HP.out.2; have hx0 : wv1.cell? ⟨go_, xi.toNat * 4, none⟩ = some (.int .i64 (xv)) := hz_.1 0 _ rfl; have hf0 : wv1.frozen? ⟨go_, xi.toNat * 4, none⟩ = false := hz_.2 0; have hx1 : wv1.cell? ⟨go_, xi.toNat * 4 + 1, none⟩ = some (.int .i64 x.f1) := hz_.1 1 _ rfl; have hf1 : wv1.frozen? ⟨go_, xi.toNat * 4 + 1, none⟩ = false := hz_.2 1; have hx2 : wv1.cell? ⟨go_, xi.toNat * 4 + 2, none⟩ = some (.slice Ar x.f2.length cr) := hz_.1 2 _ rfl; have hf2 : wv1.frozen? ⟨go_, xi.toNat * 4 + 2, none⟩ = false := hz_.2 2; have hx3 : wv1.cell? ⟨go_, xi.toNat * 4 + 3, none⟩ = some (.int .i64 x.f3) := hz_.1 3 _ rfl; have hf3 : wv1.frozen? ⟨go_, xi.toNat * 4 + 3, none⟩ = false := hz_.2 3; clear hz_) | ((with_reducible refine gate_store (t := 3) (p := 23) rfl ?_); refine store_event (t := 3) (p := 23) (v := ?vo_wv2) (w1 := (wv1.setCell ⟨go_, xi.toNat * 4 + 1, none⟩ (.int .i64 (wrap64 (xv + 1))))) ?hg ?ho ?hn ?hr ?_; (case ho => rfl); (case hg => rfl); (case hn => rfl); (case hr => first | (go_simp; done) | (go_simp; rfl)); intro wv2 hw; have n0_ := Aside0.mk (by rw [hw]; exact nk_set HH.out HP.out.1 HP.out.2 1 _ rfl (by decide) rfl _ rfl : Kd.H k161 161 wv2 w0.heap.size P0_ (.slice (some ⟨go_, 0, none⟩) l0.length c0) (pre ++ x :: l0.drop (xi.toNat + 1)) xi oki [.int .i64 (xv), .int .i64 (wrap64 (xv + 1)), .slice Ar x.f2.length cr, .int .i64 x.f3]); have n1_ := Aside0.mk (by rw [hw]; exact below_set HB.out HGB.out : Below w0.heap.size w0 wv2); have n2_ := Aside0.mk (by rw [hw]; exact Kept.setCell HK.out (.inl HGO.out) _ : Kept w wv2 (fun k_ => P0_ k_)); have n3_ := Aside0.mk (by rw [hw]; exact Kd.R_far (p := ⟨go_, xi.toNat * 4 + 1, none⟩) HR.out (fun k_ hk_ => (HKI.out k_ hk_).2) _ : Kd.R (Kd.int .u8) 5 wv2 w0.heap.size oki (.slice Ar x.f2.length cr) x.f2); clear hw HH HB HK HR hx0 hf0 hx1 hf1 hx2 hf2 hx3 hf3; have HH := n0_; have HB := n1_; have HK := n2_; have HR := n3_; clear n0_ n1_ n2_ n3_; have hz_ := Kd.H_at HH.out HP.out.1 HP.out.2; have hx0 : wv2.cell? ⟨go_, xi.toNat * 4, none⟩ = some (.int .i64 (xv)) := hz_.1 0 _ rfl; have hf0 : wv2.frozen? ⟨go_, xi.toNat * 4, none⟩ = false := hz_.2 0; have hx1 : wv2.cell? ⟨go_, xi.toNat * 4 + 1, none⟩ = some (.int .i64 (wrap64 (xv + 1))) := hz_.1 1 _ rfl; have hf1 : wv2.frozen? ⟨go_, xi.toNat * 4 + 1, none⟩ = false := hz_.2 1; have hx2 : wv2.cell? ⟨go_, xi.toNat * 4 + 2, none⟩ = some (.slice Ar x.f2.length cr) := hz_.1 2 _ rfl; have hf2 : wv2.frozen? ⟨go_, xi.toNat * 4 + 2, none⟩ = false := hz_.2 2; have hx3 : wv2.cell? ⟨go_, xi.toNat * 4 + 3, none⟩ = some (.int .i64 x.f3) := hz_.1 3 _ rfl; have hf3 : wv2.frozen? ⟨go_, xi.toNat * 4 + 3, none⟩ = false := hz_.2 3; clear hz_) | ((with_reducible refine gate_callee (f := 108) rfl ?_); refine goesL_ (some 32) rfl rfl Try.func108 (by kernel_rfl) rfl #[.slice Ar x.f2.length cr, .int .i64 (wrap64 ((wrap64 (xv + 1)) + 1))] rfl (by (try simp only [List.map_toArray, List.map_cons, List.map_nil]); first | done | rfl) ?_; (with_reducible refine (laws_markByteS.calls k (fun k_ => some k_ = ((.slice Ar x.f2.length cr) : Value).ownBlock ∧ oki k_) (.slice Ar x.f2.length cr) x.f2 (wrap64 ((wrap64 (xv + 1)) + 1)) m_ rl_ w0 _ ?side1 ?side2 HC.out).mono ?_); (case side1 => repeat (first | (with_reducible first | exact HB.out | apply below_alloc | apply pw_below_drewN | apply below_drew1) | exact HB.out)); (case side2 => exact Kd.R_tight2 rfl (by (with_reducible repeat (first | apply Kd.R_alloc | apply Kd.R_drewN | apply Kd.R_drew)); exact HR.out)); rintro e wv3 ⟨rfl, hy0, hb, hkp⟩; refine ⟨_, rfl, ?_⟩; have n0_ := Aside0.mk (Kd.H_kept (by (with_reducible repeat (first | apply Kd.H_alloc | apply Kd.H_drewN | apply Kd.H_drew)); exact HH.out) hkp (fun _ _ hn_ hs_ => hn_ hs_.2) : Kd.H k161 161 wv3 w0.heap.size P0_ (.slice (some ⟨go_, 0, none⟩) l0.length c0) (pre ++ x :: l0.drop (xi.toNat + 1)) xi oki [.int .i64 (xv), .int .i64 (wrap64 (xv + 1)), .slice Ar x.f2.length cr, .int .i64 x.f3]); have n1_ := Aside0.mk (hb : Below w0.heap.size w0 wv3); have n2_ := Aside0.mk (Kept.then_ (by repeat (first | (with_reducible first | exact HK.out | apply Kept.alloc | apply Kept.drewN | apply Kept.drew) | exact HK.out)) hkp (fun k_ hs_ => .inl (HKI.out k_ hs_.2).1) : Kept w wv3 (fun k_ => P0_ k_)); have n3_ := Aside0.mk (Kd.R_reok rfl hy0 (fun k_ e_ => HR.out.1 k_ e_) : Kd.R (Kd.int .u8) 5 wv3 w0.heap.size oki (.slice Ar x.f2.length cr) rl_); clear HH HB HK HR hy0 hb hkp hx0 hf0 hx1 hf1 hx2 hf2 hx3 hf3; have HH := n0_; have HB := n1_; have HK := n2_; have HR := n3_; clear n0_ n1_ n2_ n3_; have hz_ := Kd.H_at HH.out HP.out.1 HP.out.2; have hx0 : wv3.cell? ⟨go_, xi.toNat * 4, none⟩ = some (.int .i64 (xv)) := hz_.1 0 _ rfl; have hf0 : wv3.frozen? ⟨go_, xi.toNat * 4, none⟩ = false := hz_.2 0; have hx1 : wv3.cell? ⟨go_, xi.toNat * 4 + 1, none⟩ = some (.int .i64 (wrap64 (xv + 1))) := hz_.1 1 _ rfl; have hf1 : wv3.frozen? ⟨go_, xi.toNat * 4 + 1, none⟩ = false := hz_.2 1; have hx2 : wv3.cell? ⟨go_, xi.toNat * 4 + 2, none⟩ = some (.slice Ar x.f2.length cr) := hz_.1 2 _ rfl; have hf2 : wv3.frozen? ⟨go_, xi.toNat * 4 + 2, none⟩ = false := hz_.2 2; have hx3 : wv3.cell? ⟨go_, xi.toNat * 4 + 3, none⟩ = some (.int .i64 x.f3) := hz_.1 3 _ rfl; have hf3 : wv3.frozen? ⟨go_, xi.toNat * 4 + 3, none⟩ = false := hz_.2 3; clear hz_) | ((with_reducible refine gate_store (t := 3) (p := 37) rfl ?_); refine store_event (t := 3) (p := 37) (v := ?vo_wv4) (w1 := (wv3.setCell ⟨go_, xi.toNat * 4 + 3, none⟩ (.int .i64 (m_)))) ?hg ?ho ?hn ?hr ?_; (case ho => rfl); (case hg => rfl); (case hn => rfl); (case hr => first | (go_simp; done) | (go_simp; rfl)); intro wv4 hw; have n0_ := Aside0.mk (by rw [hw]; exact nk_set HH.out HP.out.1 HP.out.2 3 _ rfl (by decide) rfl _ rfl : Kd.H k161 161 wv4 w0.heap.size P0_ (.slice (some ⟨go_, 0, none⟩) l0.length c0) (pre ++ x :: l0.drop (xi.toNat + 1)) xi oki [.int .i64 (xv), .int .i64 (wrap64 (xv + 1)), .slice Ar x.f2.length cr, .int .i64 (m_)]); have n1_ := Aside0.mk (by rw [hw]; exact below_set HB.out HGB.out : Below w0.heap.size w0 wv4); have n2_ := Aside0.mk (by rw [hw]; exact Kept.setCell HK.out (.inl HGO.out) _ : Kept w wv4 (fun k_ => P0_ k_)); have n3_ := Aside0.mk (by rw [hw]; exact Kd.R_far (p := ⟨go_, xi.toNat * 4 + 3, none⟩) HR.out (fun k_ hk_ => (HKI.out k_ hk_).2) _ : Kd.R (Kd.int .u8) 5 wv4 w0.heap.size oki (.slice Ar x.f2.length cr) rl_); clear hw HH HB HK HR hx0 hf0 hx1 hf1 hx2 hf2 hx3 hf3; have HH := n0_; have HB := n1_; have HK := n2_; have HR := n3_; clear n0_ n1_ n2_ n3_; have hz_ := Kd.H_at HH.out HP.out.1 HP.out.2; have hx0 : wv4.cell? ⟨go_, xi.toNat * 4, none⟩ = some (.int .i64 (xv)) := hz_.1 0 _ rfl; have hf0 : wv4.frozen? ⟨go_, xi.toNat * 4, none⟩ = false := hz_.2 0; have hx1 : wv4.cell? ⟨go_, xi.toNat * 4 + 1, none⟩ = some (.int .i64 (wrap64 (xv + 1))) := hz_.1 1 _ rfl; have hf1 : wv4.frozen? ⟨go_, xi.toNat * 4 + 1, none⟩ = false := hz_.2 1; have hx2 : wv4.cell? ⟨go_, xi.toNat * 4 + 2, none⟩ = some (.slice Ar x.f2.length cr) := hz_.1 2 _ rfl; have hf2 : wv4.frozen? ⟨go_, xi.toNat * 4 + 2, none⟩ = false := hz_.2 2; have hx3 : wv4.cell? ⟨go_, xi.toNat * 4 + 3, none⟩ = some (.int .i64 (m_)) := hz_.1 3 _ rfl; have hf3 : wv4.frozen? ⟨go_, xi.toNat * 4 + 3, none⟩ = false := hz_.2 3; clear hz_))
        go_roundg k1
        case measure => omega
        case rel =>
          have hn1 : (xi + 1).toNat = xi.toNat + 1 := by have := HP.out.1; omega
          refine ⟨pre ++ [(⟨xv, wrap64 (xv + 1), rl_, m_⟩ : S161)], wrap64 (m_ + 1), xi + 1, rfl, (by congr 1; (unfold wrap64; have := HN.out; have := HL.out; omega)), ⟨by have := HN.out; have := HP.out; refine ⟨?_, ?_, ?_, ?_⟩ <;> (try simp only [List.length_append, List.length_cons, List.length_nil]) <;> omega⟩, ⟨post2, by rw [hn1]; exact HD.out, by rw [HE.out, List.append_assoc]; rfl⟩, ⟨?_⟩, ⟨by repeat (first | (with_reducible first | exact HK.out | apply Kept.alloc | apply Kept.drewN | apply Kept.drew) | exact HK.out)⟩, ⟨by repeat (first | (with_reducible first | exact HB.out | apply below_alloc | apply pw_below_drewN | apply below_drew1) | exact HB.out)⟩⟩
          rw [hn1]
          (with_reducible repeat (first | apply Kd.S_alloc | apply Kd.S_drewN | apply Kd.S_drew))
          exact nk_back HH.out HN.out.2.2.2 (k161_mkM _ _ _ (⟨xv, wrap64 (xv + 1), rl_, m_⟩ : S161) HR.out)
    · have hdec : decide (xi < (l0.length : Int)) = false := decide_eq_false hi
      obtain ⟨post, H, hr⟩ := HA.out
      have HO1 := HO.out
      rw [List.drop_eq_nil_of_le (by omega)] at H HO1
      obtain ⟨rfl, rfl⟩ := Prod.mk.inj (Option.some.inj H)
      rw [List.append_nil] at HO1 hr
      subst hr
      have HS := Aside0.mk HO1
      clear H HO1 HA HO hi
      go_wp2
      go_ret
      exact ⟨rfl, by (with_reducible repeat (first | apply Kd.S_alloc | apply Kd.S_drewN | apply Kd.S_drew)); exact HS.out, by repeat (first | (with_reducible first | exact HB.out | apply below_alloc | apply pw_below_drewN | apply below_drew1) | exact HB.out), by repeat (first | (with_reducible first | exact HK.out | apply Kept.alloc | apply Kept.drewN | apply Kept.drew) | exact HK.out)⟩

/-! ### laws_markEpochBoxes: function 61 (by a program of this session: it hands its rows over one by one) -/
def laws_markEpochBoxes.f (k : Nat) (a0_0 : Int) (l0_1 : List (S161)) (a1 : Int) : Option (Int × (List (S161))) := (laws_markBoxS.f k l0_1 a1).bind fun p0_ => some (p0_.1, p0_.2)
theorem laws_markEpochBoxes.mono : ∀ a0 a1 a2 k, LeO (laws_markEpochBoxes.f k a0 a1 a2) (laws_markEpochBoxes.f (k + 1) a0 a1 a2) := by
  intro a0 a1 a2 k
  unfold laws_markEpochBoxes.f
  exact LeO.bind (laws_markBoxS.mono _ _ _) (fun _ => LeO.refl _)
set_option maxHeartbeats 8000000 in
set_option maxRecDepth 100000 in
theorem laws_markEpochBoxes.calls (k : Nat) (a0_0 : Int) (P0_1_ : Nat → Prop) (u9000_ : Value) (l0_1 : List (S161)) (a1 : Int) (r1 : Int) (r2 : List (S161)) (w0 w : World) (hB : Below w0.heap.size w0 w) (ho0_1 : Kd.S k161 161 w w0.heap.size P0_1_ u9000_ l0_1) (h : laws_markEpochBoxes.f k a0_0 l0_1 a1 = some (r1, r2)) :
    Calls Try.prog 61 #[.agg #[.int .i64 a0_0, u9000_], .int .i64 a1] w fun e w' => e = .returned (.int .i64 r1) ∧ Kd.S k161 161 w' w0.heap.size (fun k_ => P0_1_ k_) u9000_ r2 ∧ Below w0.heap.size w0 w' ∧ Kept w w' (fun k_ => P0_1_ k_) := by
  have hu49 := Try.underlying49
  have HB := Aside0.mk hB
  have HK := Aside0.mk (Kept.refl w (fun k_ => P0_1_ k_))
  obtain ⟨okq0_1, hoo, hii⟩ := lk_Si ho0_1
  obtain ⟨Aq0_1, cq0_1, rfl⟩ := Kd.S_slice hoo
  have HOq0_1 := Aside0.mk hoo
  have HIq0_1 := Aside0.mk hii
  clear hoo hii ho0_1
  clear hB
  unfold laws_markEpochBoxes.f at h
  obtain ⟨⟨m0_, y0_⟩, C0, h⟩ := Option.bind_eq_some_iff.mp h
  have A0q := Aside0.mk C0
  clear C0
  simp only [Option.some.injEq, Prod.mk.injEq] at h
  obtain ⟨rfl, rfl⟩ := h
  go_enter Try.func61, Try.ntmps61
  go_wp2_with (first | ((with_reducible refine gate_dst (N := 2) rfl ?_); refine box_event ?hg (N := 2) ?hd (cs := #[.int .i64 a0_0, .slice Aq0_1 l0_1.length cq0_1]) (t := 49) ?hr ?_; (case hd => rfl); (case hg => rfl); (case hr => first | (go_simp; done) | (go_simp; rfl)); intro gb7001 hg wv1 hbox hb; have n0_ := Aside0.mk (Kd.S_kept HOq0_1.out (Kept.below (show Kept w w (fun k_ => False) from by repeat (first | (with_reducible first | exact Kept.refl _ _ | apply Kept.alloc | apply Kept.drewN | apply Kept.drew) | exact Kept.refl _ _)) hb) (fun _ _ hs_ => hs_.elim)); have n1_ := Aside0.mk (below_step (by repeat (first | (with_reducible first | exact HB.out | apply below_alloc | apply pw_below_drewN | apply below_drew1) | exact HB.out)) hb); have n2_ := Aside0.mk (Kept.then_ HK.out (Kept.below (show Kept w w (fun k_ => False) from by repeat (first | (with_reducible first | exact Kept.refl _ _ | apply Kept.alloc | apply Kept.drewN | apply Kept.drew) | exact Kept.refl _ _)) hb) (fun k_ hs_ => .inr (hs_.elim))); have n3_ := Aside0.mk (hbox); have n4_ := Aside0.mk ((by rw [hg]; exact Nat.le_trans HB.out.size ((show Kept w w (fun k_ => False) from by repeat (first | (with_reducible first | exact Kept.refl _ _ | apply Kept.alloc | apply Kept.drewN | apply Kept.drew) | exact Kept.refl _ _))).1 : w0.heap.size ≤ gb7001)); have n5_ := Aside0.mk ((⟨by rw [hg]; exact ((show Kept w w (fun k_ => False) from by repeat (first | (with_reducible first | exact Kept.refl _ _ | apply Kept.alloc | apply Kept.drewN | apply Kept.drew) | exact Kept.refl _ _))).1, blk_lt hbox⟩ : w.heap.size ≤ gb7001 ∧ gb7001 < wv1.heap.size)); have n6_ := Aside0.mk (((Kept.below (show Kept w w (fun k_ => False) from by repeat (first | (with_reducible first | exact Kept.refl _ _ | apply Kept.alloc | apply Kept.drewN | apply Kept.drew) | exact Kept.refl _ _)) hb).1 : w.heap.size ≤ wv1.heap.size)); clear HOq0_1; clear HB; clear HK; have HOq0_1 := n0_; have HB := n1_; have HK := n2_; have BK7001 := n3_; have GE7001 := n4_; have HG7001 := n5_; have HL1 := n6_; clear n0_ n1_ n2_ n3_ n4_ n5_ n6_; clear hb hbox hg; have hcz1_0 : wv1.cell? ⟨gb7001, 0, none⟩ = some (.int .i64 a0_0) := (blk_cell BK7001.out 0).trans rfl; have hcz1_f0 := blk_frozen BK7001.out 0; have hcz1_1 : wv1.cell? ⟨gb7001, 1, none⟩ = some (.slice Aq0_1 l0_1.length cq0_1) := (blk_cell BK7001.out 1).trans rfl; have hcz1_f1 := blk_frozen BK7001.out 1) | ((with_reducible refine gate_callee (f := 129) rfl ?_); refine goesL_ (some 8) rfl rfl Try.func129 (by kernel_rfl) rfl #[.slice Aq0_1 l0_1.length cq0_1, .int .i64 a1] rfl (by (try simp only [List.map_toArray, List.map_cons, List.map_nil]); first | done | rfl | (simp only [List.length_drop, List.length_take]; rfl)) ?_; (with_reducible refine (laws_markBoxS.calls k (fun k_ => okq0_1 k_) (.slice Aq0_1 l0_1.length cq0_1) l0_1 a1 m0_ y0_ w0 _ ?side1 ?side2 A0q.out).mono ?_); (case side1 => repeat (first | (with_reducible first | exact HB.out | apply below_alloc | apply pw_below_drewN | apply below_drew1) | exact HB.out)); (case side2 => exact (Kd.S_kept HOq0_1.out (show Kept wv1 wv1 (fun k_ => False) from by repeat (first | (with_reducible first | exact Kept.refl _ _ | apply Kept.alloc | apply Kept.drewN | apply Kept.drew) | exact Kept.refl _ _)) (fun _ _ hs_ => hs_.elim))); rintro e wv2 ⟨rfl, hy0, hb, hkp⟩; refine ⟨_, rfl, ?_⟩; have hkW := (show Kept wv1 wv1 (fun k_ => False) from by repeat (first | (with_reducible first | exact Kept.refl _ _ | apply Kept.alloc | apply Kept.drewN | apply Kept.drew) | exact Kept.refl _ _)); have n0_ := Aside0.mk (hy0); have n1_ := Aside0.mk (blk_kept (blk_kept BK7001.out (show Kept wv1 wv1 (fun k_ => False) from by repeat (first | (with_reducible first | exact Kept.refl _ _ | apply Kept.alloc | apply Kept.drewN | apply Kept.drew) | exact Kept.refl _ _)) (fun hs_ => hs_.elim)) hkp (fun hs_ => (have i_ := HG7001.out; (have j_ := HIq0_1.out _ hs_; by have z0_ := HL1.out; omega)))); have n2_ := Aside0.mk (Kept.then_ (Kept.then_ HK.out hkW (fun k_ hs_ => .inr (hs_.elim))) hkp (fun k_ hs_ => .inl ((HIq0_1.out k_ hs_).2))); have n3_ := Aside0.mk (hb); have n4_ := Aside0.mk ((Nat.le_trans hkW.1 hkp.1 : wv1.heap.size ≤ wv2.heap.size)); clear HOq0_1; clear BK7001; clear HK; clear HB; have HOq0_1 := n0_; have BK7001 := n1_; have HK := n2_; have HB := n3_; have HL2 := n4_; clear n0_ n1_ n2_ n3_ n4_; (try clear hb); (try clear hkW); (try clear hk2); (try clear hkp); (try clear hy0); have hcz2_0 : wv2.cell? ⟨gb7001, 0, none⟩ = some (.int .i64 a0_0) := (blk_cell BK7001.out 0).trans rfl; have hcz2_f0 := blk_frozen BK7001.out 0; have hcz2_1 : wv2.cell? ⟨gb7001, 1, none⟩ = some (.slice Aq0_1 l0_1.length cq0_1) := (blk_cell BK7001.out 1).trans rfl; have hcz2_f1 := blk_frozen BK7001.out 1))
  go_ret
  exact ⟨rfl, Kd.S_mono (Kd.S_kept HOq0_1.out (show Kept wv2 wv2 (fun k_ => False) from by repeat (first | (with_reducible first | exact Kept.refl _ _ | apply Kept.alloc | apply Kept.drewN | apply Kept.drew) | exact Kept.refl _ _)) (fun _ _ hs_ => hs_.elim)) (fun k_ hk_ => (HIq0_1.out k_ hk_).2), by repeat (first | (with_reducible first | exact HB.out | apply below_alloc | apply pw_below_drewN | apply below_drew1) | exact HB.out), Kept.then_ HK.out (show Kept wv2 wv2 (fun k_ => False) from by repeat (first | (with_reducible first | exact Kept.refl _ _ | apply Kept.alloc | apply Kept.drewN | apply Kept.drew) | exact Kept.refl _ _)) (fun k_ hs_ => .inr (hs_.elim))⟩

/-! ### laws_markSealedBundleS: function 107 (by a program of this session: rows inside elements) -/
def laws_markSealedBundleS.go (k : Nat) : List S71 → Int → Option (Int × List S71)
  | [], v => some (v, [])
  | x :: l, v => (laws_markByteS.f k x.f2 (wrap64 ((wrap64 (v + 1)) + 1))).bind fun p => (laws_markSealedBundleS.go k l (wrap64 (p.1 + 1))).bind fun q => some (q.1, (⟨v, wrap64 (v + 1), p.2, p.1⟩ : S71) :: q.2)
def laws_markSealedBundleS.f (k : Nat) (l0 : List S71) (a1 : Int) : Option (Int × List S71) := if l0.length ≤ 9223372036854775806 then laws_markSealedBundleS.go k l0 a1 else none
theorem laws_markSealedBundleS.go_mono (k : Nat) : ∀ (l : List S71) (v : Int), LeO (laws_markSealedBundleS.go k l v) (laws_markSealedBundleS.go (k + 1) l v)
  | [], _ => LeO.refl _
  | x :: l, v => by
    unfold laws_markSealedBundleS.go
    exact LeO.bind (laws_markByteS.mono _ _ _) (fun p => LeO.bind (laws_markSealedBundleS.go_mono k l _) (fun _ => LeO.refl _))
theorem laws_markSealedBundleS.mono : ∀ a0 a1 k, LeO (laws_markSealedBundleS.f k a0 a1) (laws_markSealedBundleS.f (k + 1) a0 a1) := by
  intro a0 a1 k
  unfold laws_markSealedBundleS.f
  exact LeO.ite (laws_markSealedBundleS.go_mono k _ _) (LeO.refl _)
set_option maxHeartbeats 8000000 in
set_option maxRecDepth 100000 in
theorem laws_markSealedBundleS.calls (k : Nat) (P0_ : Nat → Prop) (u9000_ : Value) (l0 : List (S71)) (a1 : Int) (r1 : Int) (r2 : List (S71)) (w0 w : World) (hB : Below w0.heap.size w0 w) (ho0 : Kd.S k71 71 w w0.heap.size P0_ u9000_ l0) (h : laws_markSealedBundleS.f k l0 a1 = some (r1, r2)) :
    Calls Try.prog 107 #[u9000_, .int .i64 a1] w fun e w' => e = .returned (.int .i64 r1) ∧ Kd.S k71 71 w' w0.heap.size (fun k_ => P0_ k_) u9000_ r2 ∧ Below w0.heap.size w0 w' ∧ Kept w w' (fun k_ => P0_ k_) := by
  have HO0 := Aside0.mk ho0
  have HK := Aside0.mk (Kept.refl w (fun k_ => P0_ k_))
  have HB := Aside0.mk hB
  clear hB ho0
  obtain ⟨hl, H⟩ : l0.length ≤ 9223372036854775806 ∧ laws_markSealedBundleS.go k l0 a1 = some (r1, r2) := by
    unfold laws_markSealedBundleS.f at h
    split at h
    · exact ⟨by assumption, h⟩
    · cases h
  clear h
  have HL := Aside0.mk hl
  have HA := Aside0.mk (show ∃ post, laws_markSealedBundleS.go k (l0.drop (0 : Int).toNat) a1 = some (r1, post) ∧ r2 = [] ++ post from ⟨r2, H, rfl⟩)
  clear hl H
  obtain ⟨A0, c0, eu⟩ := Kd.S_slice HO0.out
  subst eu
  go_enter Try.func107, Try.ntmps107
  go_wp2
  go_loopg [1, 5] (l0.length + 1) (fun kq v1 v5 w' => ∃ (pre : List S71) (xv xi : Int), v1 = .int .i64 xv ∧ v5 = .int .i64 xi ∧ Aside0 ((kq : Int) + xi = (l0.length : Int) + 1 ∧ xi ≤ (l0.length : Int) ∧ 0 ≤ xi ∧ pre.length = xi.toNat) ∧ Aside0 (∃ post, laws_markSealedBundleS.go k (l0.drop xi.toNat) xv = some (r1, post) ∧ r2 = pre ++ post) ∧ Aside0 (Kd.S k71 71 w' w0.heap.size P0_ (.slice A0 l0.length c0) (pre ++ l0.drop xi.toNat)) ∧ Aside0 (Kept w w' (fun k_ => P0_ k_)) ∧ Aside0 (Below w0.heap.size w0 w'))
  case atStart => exact ⟨[], a1, 0, rfl, rfl, ⟨by omega, by omega, by omega, rfl⟩, HA, ⟨by (with_reducible repeat (first | apply Kd.S_alloc | apply Kd.S_drewN | apply Kd.S_drew)); exact HO0.out⟩, ⟨by repeat (first | (with_reducible first | exact HK.out | apply Kept.alloc | apply Kept.drewN | apply Kept.drew) | exact HK.out)⟩, ⟨by repeat (first | (with_reducible first | exact HB.out | apply below_alloc | apply pw_below_drewN | apply below_drew1) | exact HB.out)⟩⟩
  case round =>
    clear HA HO0 HK HB
    obtain ⟨pre, xv, xi, rfl, rfl, HN, HA, HO, HK, HB⟩ := hrel
    have hi0 := HN.out.2.2.1
    by_cases hi : xi < (l0.length : Int)
    · cases gk with
      | zero => exact absurd HN.out.1 (by simp; omega)
      | succ k1 =>
        have hdec : decide (xi < (l0.length : Int)) = true := decide_eq_true hi
        have hil : xi.toNat < l0.length := by omega
        obtain ⟨x, hx⟩ : ∃ x, l0.drop xi.toNat = x :: l0.drop (xi.toNat + 1) := ⟨_, List.drop_eq_getElem_cons hil⟩
        have HO1 := HO.out
        rw [hx] at HO1
        obtain ⟨post, H, hr⟩ := HA.out
        rw [hx] at H
        unfold laws_markSealedBundleS.go at H
        obtain ⟨⟨m_, rl_⟩, C1, H⟩ := Option.bind_eq_some_iff.mp H
        obtain ⟨⟨rq_, post2⟩, C2, H⟩ := Option.bind_eq_some_iff.mp H
        obtain ⟨rfl, rfl⟩ := Prod.mk.inj (Option.some.inj H)
        have HC := Aside0.mk C1
        have HD := Aside0.mk C2
        have HE := Aside0.mk hr
        clear C1 C2 H HA HO hr
        obtain ⟨go_, eA, hgb, hgo, hin, oki, ce_, hM, hoki, hH⟩ := nk_elem HO1 HN.out.2.2.2 hi0 z71
        subst eA
        obtain ⟨vr_, rfl, hr_⟩ := k71_openM hM
        obtain ⟨Ar, cr, rfl⟩ := Kd.R_slice hr_
        have HH := Aside0.mk hH
        have HR := Aside0.mk hr_
        have HKI := Aside0.mk hoki
        have HGB := Aside0.mk hgb
        have HGO := Aside0.mk hgo
        have HP := Aside0.mk (show 0 ≤ xi ∧ xi < ((l0.length : Nat) : Int) from ⟨hi0, hi⟩)
        have HXD := Aside0.mk hx
        clear HO1 hM hH hr_ hoki hgb hgo hin hx
        have hz_ := Kd.H_at HH.out HP.out.1 HP.out.2
        have hx0 : wr.cell? ⟨go_, xi.toNat * 4, none⟩ = some (.int .i64 x.f0) := hz_.1 0 _ rfl
        have hf0 : wr.frozen? ⟨go_, xi.toNat * 4, none⟩ = false := hz_.2 0
        have hx1 : wr.cell? ⟨go_, xi.toNat * 4 + 1, none⟩ = some (.int .i64 x.f1) := hz_.1 1 _ rfl
        have hf1 : wr.frozen? ⟨go_, xi.toNat * 4 + 1, none⟩ = false := hz_.2 1
        have hx2 : wr.cell? ⟨go_, xi.toNat * 4 + 2, none⟩ = some (.slice Ar x.f2.length cr) := hz_.1 2 _ rfl
        have hf2 : wr.frozen? ⟨go_, xi.toNat * 4 + 2, none⟩ = false := hz_.2 2
        have hx3 : wr.cell? ⟨go_, xi.toNat * 4 + 3, none⟩ = some (.int .i64 x.f3) := hz_.1 3 _ rfl
        have hf3 : wr.frozen? ⟨go_, xi.toNat * 4 + 3, none⟩ = false := hz_.2 3
        clear hz_
        have hp1 : (0 ≤ xi) = True := eq_true hi0
        have hp2 : (xi < (l0.length : Int)) = True := eq_true hi
        clear hi hi0 hil
        go_wp2_with (first | ((with_reducible refine gate_store (t := 3) (p := 16) rfl ?_); refine store_event (t := 3) (p := 16) (v := ?vo_wv1) (w1 := (wr.setCell ⟨go_, xi.toNat * 4, none⟩ (.int .i64 (xv)))) ?hg ?ho ?hn ?hr ?_; (case ho => rfl); (case hg => rfl); (case hn => rfl); (case hr => first | (go_simp; done) | (go_simp; rfl)); intro wv1 hw; have n0_ := Aside0.mk (by rw [hw]; exact nk_set HH.out HP.out.1 HP.out.2 0 _ rfl (by decide) rfl _ rfl : Kd.H k71 71 wv1 w0.heap.size P0_ (.slice (some ⟨go_, 0, none⟩) l0.length c0) (pre ++ x :: l0.drop (xi.toNat + 1)) xi oki [.int .i64 (xv), .int .i64 x.f1, .slice Ar x.f2.length cr, .int .i64 x.f3]); have n1_ := Aside0.mk (by rw [hw]; exact below_set HB.out HGB.out : Below w0.heap.size w0 wv1); have n2_ := Aside0.mk (by rw [hw]; exact Kept.setCell HK.out (.inl HGO.out) _ : Kept w wv1 (fun k_ => P0_ k_)); have n3_ := Aside0.mk (by rw [hw]; exact Kd.R_far (p := ⟨go_, xi.toNat * 4, none⟩) HR.out (fun k_ hk_ => (HKI.out k_ hk_).2) _ : Kd.R (Kd.int .u8) 5 wv1 w0.heap.size oki (.slice Ar x.f2.length cr) x.f2); clear hw HH HB HK HR hx0 hf0 hx1 hf1 hx2 hf2 hx3 hf3; have HH := n0_; have HB := n1_; have HK := n2_; have HR := n3_; clear n0_ n1_ n2_ n3_; have hz_ := Kd.H_at HH.out HP.out.1 HP.out.2; have hx0 : wv1.cell? ⟨go_, xi.toNat * 4, none⟩ = some (.int .i64 (xv)) := hz_.1 0 _ rfl; have hf0 : wv1.frozen? ⟨go_, xi.toNat * 4, none⟩ = false := hz_.2 0; have hx1 : wv1.cell? ⟨go_, xi.toNat * 4 + 1, none⟩ = some (.int .i64 x.f1) := hz_.1 1 _ rfl; have hf1 : wv1.frozen? ⟨go_, xi.toNat * 4 + 1, none⟩ = false := hz_.2 1; have hx2 : wv1.cell? ⟨go_, xi.toNat * 4 + 2, none⟩ = some (.slice Ar x.f2.length cr) := hz_.1 2 _ rfl; have hf2 : wv1.frozen? ⟨go_, xi.toNat * 4 + 2, none⟩ = false := hz_.2 2; have hx3 : wv1.cell? ⟨go_, xi.toNat * 4 + 3, none⟩ = some (.int .i64 x.f3) := hz_.1 3 _ rfl; have hf3 : wv1.frozen? ⟨go_, xi.toNat * 4 + 3, none⟩ = false := hz_.2 3; clear hz_) | ((with_reducible refine gate_store (t := 3) (p := 23) rfl ?_); refine store_event (t := 3) (p := 23) (v := ?vo_wv2) (w1 := (wv1.setCell ⟨go_, xi.toNat * 4 + 1, none⟩ (.int .i64 (wrap64 (xv + 1))))) ?hg ?ho ?hn ?hr ?_; (case ho => rfl); (case hg => rfl); (case hn => rfl); (case hr => first | (go_simp; done) | (go_simp; rfl)); intro wv2 hw; have n0_ := Aside0.mk (by rw [hw]; exact nk_set HH.out HP.out.1 HP.out.2 1 _ rfl (by decide) rfl _ rfl : Kd.H k71 71 wv2 w0.heap.size P0_ (.slice (some ⟨go_, 0, none⟩) l0.length c0) (pre ++ x :: l0.drop (xi.toNat + 1)) xi oki [.int .i64 (xv), .int .i64 (wrap64 (xv + 1)), .slice Ar x.f2.length cr, .int .i64 x.f3]); have n1_ := Aside0.mk (by rw [hw]; exact below_set HB.out HGB.out : Below w0.heap.size w0 wv2); have n2_ := Aside0.mk (by rw [hw]; exact Kept.setCell HK.out (.inl HGO.out) _ : Kept w wv2 (fun k_ => P0_ k_)); have n3_ := Aside0.mk (by rw [hw]; exact Kd.R_far (p := ⟨go_, xi.toNat * 4 + 1, none⟩) HR.out (fun k_ hk_ => (HKI.out k_ hk_).2) _ : Kd.R (Kd.int .u8) 5 wv2 w0.heap.size oki (.slice Ar x.f2.length cr) x.f2); clear hw HH HB HK HR hx0 hf0 hx1 hf1 hx2 hf2 hx3 hf3; have HH := n0_; have HB := n1_; have HK := n2_; have HR := n3_; clear n0_ n1_ n2_ n3_; have hz_ := Kd.H_at HH.out HP.out.1 HP.out.2; have hx0 : wv2.cell? ⟨go_, xi.toNat * 4, none⟩ = some (.int .i64 (xv)) := hz_.1 0 _ rfl; have hf0 : wv2.frozen? ⟨go_, xi.toNat * 4, none⟩ = false := hz_.2 0; have hx1 : wv2.cell? ⟨go_, xi.toNat * 4 + 1, none⟩ = some (.int .i64 (wrap64 (xv + 1))) := hz_.1 1 _ rfl; have hf1 : wv2.frozen? ⟨go_, xi.toNat * 4 + 1, none⟩ = false := hz_.2 1; have hx2 : wv2.cell? ⟨go_, xi.toNat * 4 + 2, none⟩ = some (.slice Ar x.f2.length cr) := hz_.1 2 _ rfl; have hf2 : wv2.frozen? ⟨go_, xi.toNat * 4 + 2, none⟩ = false := hz_.2 2; have hx3 : wv2.cell? ⟨go_, xi.toNat * 4 + 3, none⟩ = some (.int .i64 x.f3) := hz_.1 3 _ rfl; have hf3 : wv2.frozen? ⟨go_, xi.toNat * 4 + 3, none⟩ = false := hz_.2 3; clear hz_) | ((with_reducible refine gate_callee (f := 108) rfl ?_); refine goesL_ (some 32) rfl rfl Try.func108 (by kernel_rfl) rfl #[.slice Ar x.f2.length cr, .int .i64 (wrap64 ((wrap64 (xv + 1)) + 1))] rfl (by (try simp only [List.map_toArray, List.map_cons, List.map_nil]); first | done | rfl) ?_; (with_reducible refine (laws_markByteS.calls k (fun k_ => some k_ = ((.slice Ar x.f2.length cr) : Value).ownBlock ∧ oki k_) (.slice Ar x.f2.length cr) x.f2 (wrap64 ((wrap64 (xv + 1)) + 1)) m_ rl_ w0 _ ?side1 ?side2 HC.out).mono ?_); (case side1 => repeat (first | (with_reducible first | exact HB.out | apply below_alloc | apply pw_below_drewN | apply below_drew1) | exact HB.out)); (case side2 => exact Kd.R_tight2 rfl (by (with_reducible repeat (first | apply Kd.R_alloc | apply Kd.R_drewN | apply Kd.R_drew)); exact HR.out)); rintro e wv3 ⟨rfl, hy0, hb, hkp⟩; refine ⟨_, rfl, ?_⟩; have n0_ := Aside0.mk (Kd.H_kept (by (with_reducible repeat (first | apply Kd.H_alloc | apply Kd.H_drewN | apply Kd.H_drew)); exact HH.out) hkp (fun _ _ hn_ hs_ => hn_ hs_.2) : Kd.H k71 71 wv3 w0.heap.size P0_ (.slice (some ⟨go_, 0, none⟩) l0.length c0) (pre ++ x :: l0.drop (xi.toNat + 1)) xi oki [.int .i64 (xv), .int .i64 (wrap64 (xv + 1)), .slice Ar x.f2.length cr, .int .i64 x.f3]); have n1_ := Aside0.mk (hb : Below w0.heap.size w0 wv3); have n2_ := Aside0.mk (Kept.then_ (by repeat (first | (with_reducible first | exact HK.out | apply Kept.alloc | apply Kept.drewN | apply Kept.drew) | exact HK.out)) hkp (fun k_ hs_ => .inl (HKI.out k_ hs_.2).1) : Kept w wv3 (fun k_ => P0_ k_)); have n3_ := Aside0.mk (Kd.R_reok rfl hy0 (fun k_ e_ => HR.out.1 k_ e_) : Kd.R (Kd.int .u8) 5 wv3 w0.heap.size oki (.slice Ar x.f2.length cr) rl_); clear HH HB HK HR hy0 hb hkp hx0 hf0 hx1 hf1 hx2 hf2 hx3 hf3; have HH := n0_; have HB := n1_; have HK := n2_; have HR := n3_; clear n0_ n1_ n2_ n3_; have hz_ := Kd.H_at HH.out HP.out.1 HP.out.2; have hx0 : wv3.cell? ⟨go_, xi.toNat * 4, none⟩ = some (.int .i64 (xv)) := hz_.1 0 _ rfl; have hf0 : wv3.frozen? ⟨go_, xi.toNat * 4, none⟩ = false := hz_.2 0; have hx1 : wv3.cell? ⟨go_, xi.toNat * 4 + 1, none⟩ = some (.int .i64 (wrap64 (xv + 1))) := hz_.1 1 _ rfl; have hf1 : wv3.frozen? ⟨go_, xi.toNat * 4 + 1, none⟩ = false := hz_.2 1; have hx2 : wv3.cell? ⟨go_, xi.toNat * 4 + 2, none⟩ = some (.slice Ar x.f2.length cr) := hz_.1 2 _ rfl; have hf2 : wv3.frozen? ⟨go_, xi.toNat * 4 + 2, none⟩ = false := hz_.2 2; have hx3 : wv3.cell? ⟨go_, xi.toNat * 4 + 3, none⟩ = some (.int .i64 x.f3) := hz_.1 3 _ rfl; have hf3 : wv3.frozen? ⟨go_, xi.toNat * 4 + 3, none⟩ = false := hz_.2 3; clear hz_) | ((with_reducible refine gate_store (t := 3) (p := 37) rfl ?_); refine store_event (t := 3) (p := 37) (v := ?vo_wv4) (w1 := (wv3.setCell ⟨go_, xi.toNat * 4 + 3, none⟩ (.int .i64 (m_)))) ?hg ?ho ?hn ?hr ?_; (case ho => rfl); (case hg => rfl); (case hn => rfl); (case hr => first | (go_simp; done) | (go_simp; rfl)); intro wv4 hw; have n0_ := Aside0.mk (by rw [hw]; exact nk_set HH.out HP.out.1 HP.out.2 3 _ rfl (by decide) rfl _ rfl : Kd.H k71 71 wv4 w0.heap.size P0_ (.slice (some ⟨go_, 0, none⟩) l0.length c0) (pre ++ x :: l0.drop (xi.toNat + 1)) xi oki [.int .i64 (xv), .int .i64 (wrap64 (xv + 1)), .slice Ar x.f2.length cr, .int .i64 (m_)]); have n1_ := Aside0.mk (by rw [hw]; exact below_set HB.out HGB.out : Below w0.heap.size w0 wv4); have n2_ := Aside0.mk (by rw [hw]; exact Kept.setCell HK.out (.inl HGO.out) _ : Kept w wv4 (fun k_ => P0_ k_)); have n3_ := Aside0.mk (by rw [hw]; exact Kd.R_far (p := ⟨go_, xi.toNat * 4 + 3, none⟩) HR.out (fun k_ hk_ => (HKI.out k_ hk_).2) _ : Kd.R (Kd.int .u8) 5 wv4 w0.heap.size oki (.slice Ar x.f2.length cr) rl_); clear hw HH HB HK HR hx0 hf0 hx1 hf1 hx2 hf2 hx3 hf3; have HH := n0_; have HB := n1_; have HK := n2_; have HR := n3_; clear n0_ n1_ n2_ n3_; have hz_ := Kd.H_at HH.out HP.out.1 HP.out.2; have hx0 : wv4.cell? ⟨go_, xi.toNat * 4, none⟩ = some (.int .i64 (xv)) := hz_.1 0 _ rfl; have hf0 : wv4.frozen? ⟨go_, xi.toNat * 4, none⟩ = false := hz_.2 0; have hx1 : wv4.cell? ⟨go_, xi.toNat * 4 + 1, none⟩ = some (.int .i64 (wrap64 (xv + 1))) := hz_.1 1 _ rfl; have hf1 : wv4.frozen? ⟨go_, xi.toNat * 4 + 1, none⟩ = false := hz_.2 1; have hx2 : wv4.cell? ⟨go_, xi.toNat * 4 + 2, none⟩ = some (.slice Ar x.f2.length cr) := hz_.1 2 _ rfl; have hf2 : wv4.frozen? ⟨go_, xi.toNat * 4 + 2, none⟩ = false := hz_.2 2; have hx3 : wv4.cell? ⟨go_, xi.toNat * 4 + 3, none⟩ = some (.int .i64 (m_)) := hz_.1 3 _ rfl; have hf3 : wv4.frozen? ⟨go_, xi.toNat * 4 + 3, none⟩ = false := hz_.2 3; clear hz_))
        go_roundg k1
        case measure => omega
        case rel =>
          have hn1 : (xi + 1).toNat = xi.toNat + 1 := by have := HP.out.1; omega
          refine ⟨pre ++ [(⟨xv, wrap64 (xv + 1), rl_, m_⟩ : S71)], wrap64 (m_ + 1), xi + 1, rfl, (by congr 1; (unfold wrap64; have := HN.out; have := HL.out; omega)), ⟨by have := HN.out; have := HP.out; refine ⟨?_, ?_, ?_, ?_⟩ <;> (try simp only [List.length_append, List.length_cons, List.length_nil]) <;> omega⟩, ⟨post2, by rw [hn1]; exact HD.out, by rw [HE.out, List.append_assoc]; rfl⟩, ⟨?_⟩, ⟨by repeat (first | (with_reducible first | exact HK.out | apply Kept.alloc | apply Kept.drewN | apply Kept.drew) | exact HK.out)⟩, ⟨by repeat (first | (with_reducible first | exact HB.out | apply below_alloc | apply pw_below_drewN | apply below_drew1) | exact HB.out)⟩⟩
          rw [hn1]
          (with_reducible repeat (first | apply Kd.S_alloc | apply Kd.S_drewN | apply Kd.S_drew))
          exact nk_back HH.out HN.out.2.2.2 (k71_mkM _ _ _ (⟨xv, wrap64 (xv + 1), rl_, m_⟩ : S71) HR.out)
    · have hdec : decide (xi < (l0.length : Int)) = false := decide_eq_false hi
      obtain ⟨post, H, hr⟩ := HA.out
      have HO1 := HO.out
      rw [List.drop_eq_nil_of_le (by omega)] at H HO1
      obtain ⟨rfl, rfl⟩ := Prod.mk.inj (Option.some.inj H)
      rw [List.append_nil] at HO1 hr
      subst hr
      have HS := Aside0.mk HO1
      clear H HO1 HA HO hi
      go_wp2
      go_ret
      exact ⟨rfl, by (with_reducible repeat (first | apply Kd.S_alloc | apply Kd.S_drewN | apply Kd.S_drew)); exact HS.out, by repeat (first | (with_reducible first | exact HB.out | apply below_alloc | apply pw_below_drewN | apply below_drew1) | exact HB.out), by repeat (first | (with_reducible first | exact HK.out | apply Kept.alloc | apply Kept.drewN | apply Kept.drew) | exact HK.out)⟩

/-! ### laws_markCloud: function 39 (by a program of this session: it hands its rows over one by one) -/
def laws_markCloud.f (k : Nat) (l0_0 : List (S114)) (a0_1 : Int) (l0_2 : List (S161)) (l0_3 : List (S71)) (a1 : Int) : Option (Int × (List (S114)) × (List (S161)) × (List (S71))) := (laws_markLogEntryS.f k l0_0 a1).bind fun p0_ => (laws_markEpochBoxes.f k a0_1 l0_2 p0_.1).bind fun p1_ => (laws_markSealedBundleS.f k l0_3 p1_.1).bind fun p2_ => some (p2_.1, p0_.2, p1_.2, p2_.2)
theorem laws_markCloud.mono : ∀ a0 a1 a2 a3 a4 k, LeO (laws_markCloud.f k a0 a1 a2 a3 a4) (laws_markCloud.f (k + 1) a0 a1 a2 a3 a4) := by
  intro a0 a1 a2 a3 a4 k
  unfold laws_markCloud.f
  exact LeO.bind (laws_markLogEntryS.mono _ _ _) (fun _ => LeO.bind (laws_markEpochBoxes.mono _ _ _ _) (fun _ => LeO.bind (laws_markSealedBundleS.mono _ _ _) (fun _ => LeO.refl _)))
set_option maxHeartbeats 8000000 in
set_option maxRecDepth 100000 in
theorem laws_markCloud.calls (k : Nat) (P0_0_ : Nat → Prop) (u9000_ : Value) (l0_0 : List (S114)) (a0_1 : Int) (P0_2_ : Nat → Prop) (u9001_ : Value) (l0_2 : List (S161)) (P0_3_ : Nat → Prop) (u9002_ : Value) (l0_3 : List (S71)) (a1 : Int) (r1 : Int) (r2 : List (S114)) (r3 : List (S161)) (r4 : List (S71)) (w0 w : World) (hB : Below w0.heap.size w0 w) (ho0_0 : Kd.R k114 114 w w0.heap.size P0_0_ u9000_ l0_0) (hp0_0_0_2 : ∀ k_, P0_0_ k_ → ¬ P0_2_ k_) (hp0_0_0_3 : ∀ k_, P0_0_ k_ → ¬ P0_3_ k_) (ho0_2 : Kd.S k161 161 w w0.heap.size P0_2_ u9001_ l0_2) (hp0_2_0_3 : ∀ k_, P0_2_ k_ → ¬ P0_3_ k_) (ho0_3 : Kd.S k71 71 w w0.heap.size P0_3_ u9002_ l0_3) (h : laws_markCloud.f k l0_0 a0_1 l0_2 l0_3 a1 = some (r1, r2, r3, r4)) :
    Calls Try.prog 39 #[.agg #[u9000_, .int .i64 a0_1, u9001_, u9002_], .int .i64 a1] w fun e w' => e = .returned (.int .i64 r1) ∧ Kd.R k114 114 w' w0.heap.size (fun k_ => P0_0_ k_) u9000_ r2 ∧ Kd.S k161 161 w' w0.heap.size (fun k_ => P0_2_ k_) u9001_ r3 ∧ Kd.S k71 71 w' w0.heap.size (fun k_ => P0_3_ k_) u9002_ r4 ∧ Below w0.heap.size w0 w' ∧ Kept w w' (fun k_ => P0_0_ k_ ∨ P0_2_ k_ ∨ P0_3_ k_) := by
  have hu49 := Try.underlying49
  have hu62 := Try.underlying62
  have HB := Aside0.mk hB
  have HK := Aside0.mk (Kept.refl w (fun k_ => P0_0_ k_ ∨ P0_2_ k_ ∨ P0_3_ k_))
  obtain ⟨okq0_0, hoo, hii⟩ := lk_Ri ho0_0
  obtain ⟨Aq0_0, cq0_0, rfl⟩ := Kd.R_slice hoo
  have HOq0_0 := Aside0.mk hoo
  have HIq0_0 := Aside0.mk hii
  clear hoo hii ho0_0
  obtain ⟨okq0_2, hoo, hii⟩ := lk_Si ho0_2
  obtain ⟨Aq0_2, cq0_2, rfl⟩ := Kd.S_slice hoo
  have HOq0_2 := Aside0.mk hoo
  have HIq0_2 := Aside0.mk hii
  clear hoo hii ho0_2
  obtain ⟨okq0_3, hoo, hii⟩ := lk_Si ho0_3
  obtain ⟨Aq0_3, cq0_3, rfl⟩ := Kd.S_slice hoo
  have HOq0_3 := Aside0.mk hoo
  have HIq0_3 := Aside0.mk hii
  clear hoo hii ho0_3
  have HPq0_0_q0_2 := Aside0.mk hp0_0_0_2
  have HPq0_2_q0_0 := Aside0.mk (fun k_ h1_ h2_ => hp0_0_0_2 k_ h2_ h1_ : ∀ k_, P0_2_ k_ → ¬ P0_0_ k_)
  clear hp0_0_0_2
  have HPq0_0_q0_3 := Aside0.mk hp0_0_0_3
  have HPq0_3_q0_0 := Aside0.mk (fun k_ h1_ h2_ => hp0_0_0_3 k_ h2_ h1_ : ∀ k_, P0_3_ k_ → ¬ P0_0_ k_)
  clear hp0_0_0_3
  have HPq0_2_q0_3 := Aside0.mk hp0_2_0_3
  have HPq0_3_q0_2 := Aside0.mk (fun k_ h1_ h2_ => hp0_2_0_3 k_ h2_ h1_ : ∀ k_, P0_3_ k_ → ¬ P0_2_ k_)
  clear hp0_2_0_3
  clear hB
  unfold laws_markCloud.f at h
  obtain ⟨⟨m0_, y0_⟩, C0, h⟩ := Option.bind_eq_some_iff.mp h
  have A0q := Aside0.mk C0
  clear C0
  obtain ⟨⟨m1_, y1_⟩, C1, h⟩ := Option.bind_eq_some_iff.mp h
  have A1q := Aside0.mk C1
  clear C1
  obtain ⟨⟨m2_, y2_⟩, C2, h⟩ := Option.bind_eq_some_iff.mp h
  have A2q := Aside0.mk C2
  clear C2
  simp only [Option.some.injEq, Prod.mk.injEq] at h
  obtain ⟨rfl, rfl, rfl, rfl⟩ := h
  go_enter Try.func39, Try.ntmps39
  go_wp2_with (first | ((with_reducible refine gate_dst (N := 2) rfl ?_); refine box_event ?hg (N := 2) ?hd (cs := #[.slice Aq0_0 l0_0.length cq0_0, .int .i64 a0_1, .slice Aq0_2 l0_2.length cq0_2, .slice Aq0_3 l0_3.length cq0_3]) (t := 62) ?hr ?_; (case hd => rfl); (case hg => rfl); (case hr => first | (go_simp; done) | (go_simp; rfl)); intro gb7001 hg wv1 hbox hb; have n0_ := Aside0.mk (Kd.R_kept HOq0_0.out (Kept.below (show Kept w w (fun k_ => False) from by repeat (first | (with_reducible first | exact Kept.refl _ _ | apply Kept.alloc | apply Kept.drewN | apply Kept.drew) | exact Kept.refl _ _)) hb) (fun _ _ hs_ => hs_.elim)); have n1_ := Aside0.mk (Kd.S_kept HOq0_2.out (Kept.below (show Kept w w (fun k_ => False) from by repeat (first | (with_reducible first | exact Kept.refl _ _ | apply Kept.alloc | apply Kept.drewN | apply Kept.drew) | exact Kept.refl _ _)) hb) (fun _ _ hs_ => hs_.elim)); have n2_ := Aside0.mk (Kd.S_kept HOq0_3.out (Kept.below (show Kept w w (fun k_ => False) from by repeat (first | (with_reducible first | exact Kept.refl _ _ | apply Kept.alloc | apply Kept.drewN | apply Kept.drew) | exact Kept.refl _ _)) hb) (fun _ _ hs_ => hs_.elim)); have n3_ := Aside0.mk (below_step (by repeat (first | (with_reducible first | exact HB.out | apply below_alloc | apply pw_below_drewN | apply below_drew1) | exact HB.out)) hb); have n4_ := Aside0.mk (Kept.then_ HK.out (Kept.below (show Kept w w (fun k_ => False) from by repeat (first | (with_reducible first | exact Kept.refl _ _ | apply Kept.alloc | apply Kept.drewN | apply Kept.drew) | exact Kept.refl _ _)) hb) (fun k_ hs_ => .inr (hs_.elim))); have n5_ := Aside0.mk (hbox); have n6_ := Aside0.mk ((by rw [hg]; exact Nat.le_trans HB.out.size ((show Kept w w (fun k_ => False) from by repeat (first | (with_reducible first | exact Kept.refl _ _ | apply Kept.alloc | apply Kept.drewN | apply Kept.drew) | exact Kept.refl _ _))).1 : w0.heap.size ≤ gb7001)); have n7_ := Aside0.mk ((⟨by rw [hg]; exact ((show Kept w w (fun k_ => False) from by repeat (first | (with_reducible first | exact Kept.refl _ _ | apply Kept.alloc | apply Kept.drewN | apply Kept.drew) | exact Kept.refl _ _))).1, blk_lt hbox⟩ : w.heap.size ≤ gb7001 ∧ gb7001 < wv1.heap.size)); have n8_ := Aside0.mk (((Kept.below (show Kept w w (fun k_ => False) from by repeat (first | (with_reducible first | exact Kept.refl _ _ | apply Kept.alloc | apply Kept.drewN | apply Kept.drew) | exact Kept.refl _ _)) hb).1 : w.heap.size ≤ wv1.heap.size)); clear HOq0_0; clear HOq0_2; clear HOq0_3; clear HB; clear HK; have HOq0_0 := n0_; have HOq0_2 := n1_; have HOq0_3 := n2_; have HB := n3_; have HK := n4_; have BK7001 := n5_; have GE7001 := n6_; have HG7001 := n7_; have HL1 := n8_; clear n0_ n1_ n2_ n3_ n4_ n5_ n6_ n7_ n8_; clear hb hbox hg; have hcz1_0 : wv1.cell? ⟨gb7001, 0, none⟩ = some (.slice Aq0_0 l0_0.length cq0_0) := (blk_cell BK7001.out 0).trans rfl; have hcz1_f0 := blk_frozen BK7001.out 0; have hcz1_1 : wv1.cell? ⟨gb7001, 1, none⟩ = some (.int .i64 a0_1) := (blk_cell BK7001.out 1).trans rfl; have hcz1_f1 := blk_frozen BK7001.out 1; have hcz1_2 : wv1.cell? ⟨gb7001, 2, none⟩ = some (.slice Aq0_2 l0_2.length cq0_2) := (blk_cell BK7001.out 2).trans rfl; have hcz1_f2 := blk_frozen BK7001.out 2; have hcz1_3 : wv1.cell? ⟨gb7001, 3, none⟩ = some (.slice Aq0_3 l0_3.length cq0_3) := (blk_cell BK7001.out 3).trans rfl; have hcz1_f3 := blk_frozen BK7001.out 3) | ((with_reducible refine gate_callee (f := 44) rfl ?_); refine goesL_ (some 8) rfl rfl Try.func44 (by kernel_rfl) rfl #[.slice Aq0_0 l0_0.length cq0_0, .int .i64 a1] rfl (by (try simp only [List.map_toArray, List.map_cons, List.map_nil]); first | done | rfl | (simp only [List.length_drop, List.length_take]; rfl)) ?_; (with_reducible refine (laws_markLogEntryS.calls k (fun k_ => some k_ = (.slice Aq0_0 l0_0.length cq0_0 : Value).ownBlock ∧ okq0_0 k_) (.slice Aq0_0 l0_0.length cq0_0) l0_0 a1 m0_ y0_ w0 _ ?side1 ?side2 A0q.out).mono ?_); (case side1 => repeat (first | (with_reducible first | exact HB.out | apply below_alloc | apply pw_below_drewN | apply below_drew1) | exact HB.out)); (case side2 => exact Kd.R_tight2 rfl (Kd.R_kept HOq0_0.out (show Kept wv1 wv1 (fun k_ => False) from by repeat (first | (with_reducible first | exact Kept.refl _ _ | apply Kept.alloc | apply Kept.drewN | apply Kept.drew) | exact Kept.refl _ _)) (fun _ _ hs_ => hs_.elim))); rintro e wv2 ⟨rfl, hy0, hb, hkp⟩; refine ⟨_, rfl, ?_⟩; have hkW := (show Kept wv1 wv1 (fun k_ => False) from by repeat (first | (with_reducible first | exact Kept.refl _ _ | apply Kept.alloc | apply Kept.drewN | apply Kept.drew) | exact Kept.refl _ _)); have n0_ := Aside0.mk (Kd.R_reok rfl hy0 (fun k_ e_ => HOq0_0.out.1 k_ e_)); have n1_ := Aside0.mk (Kd.S_kept (Kd.S_kept HOq0_2.out hkW (fun _ _ hs_ => hs_.elim)) hkp (fun k_ hk_ hs_ => (have i_ := HIq0_2.out k_ hk_; (have j_ := HIq0_0.out _ (hs_).2; HPq0_2_q0_0.out _ i_.2 j_.2)))); have n2_ := Aside0.mk (Kd.S_kept (Kd.S_kept HOq0_3.out hkW (fun _ _ hs_ => hs_.elim)) hkp (fun k_ hk_ hs_ => (have i_ := HIq0_3.out k_ hk_; (have j_ := HIq0_0.out _ (hs_).2; HPq0_3_q0_0.out _ i_.2 j_.2)))); have n3_ := Aside0.mk (blk_kept (blk_kept BK7001.out (show Kept wv1 wv1 (fun k_ => False) from by repeat (first | (with_reducible first | exact Kept.refl _ _ | apply Kept.alloc | apply Kept.drewN | apply Kept.drew) | exact Kept.refl _ _)) (fun hs_ => hs_.elim)) hkp (fun hs_ => (have i_ := HG7001.out; (have j_ := HIq0_0.out _ (hs_).2; by have z0_ := HL1.out; omega)))); have n4_ := Aside0.mk (Kept.then_ (Kept.then_ HK.out hkW (fun k_ hs_ => .inr (hs_.elim))) hkp (fun k_ hs_ => .inl ((.inl (HIq0_0.out k_ hs_.2).2)))); have n5_ := Aside0.mk (hb); have n6_ := Aside0.mk ((Nat.le_trans hkW.1 hkp.1 : wv1.heap.size ≤ wv2.heap.size)); clear HOq0_0; clear HOq0_2; clear HOq0_3; clear BK7001; clear HK; clear HB; have HOq0_0 := n0_; have HOq0_2 := n1_; have HOq0_3 := n2_; have BK7001 := n3_; have HK := n4_; have HB := n5_; have HL2 := n6_; clear n0_ n1_ n2_ n3_ n4_ n5_ n6_; (try clear hb); (try clear hkW); (try clear hk2); (try clear hkp); (try clear hy0); have hcz2_0 : wv2.cell? ⟨gb7001, 0, none⟩ = some (.slice Aq0_0 l0_0.length cq0_0) := (blk_cell BK7001.out 0).trans rfl; have hcz2_f0 := blk_frozen BK7001.out 0; have hcz2_1 : wv2.cell? ⟨gb7001, 1, none⟩ = some (.int .i64 a0_1) := (blk_cell BK7001.out 1).trans rfl; have hcz2_f1 := blk_frozen BK7001.out 1; have hcz2_2 : wv2.cell? ⟨gb7001, 2, none⟩ = some (.slice Aq0_2 l0_2.length cq0_2) := (blk_cell BK7001.out 2).trans rfl; have hcz2_f2 := blk_frozen BK7001.out 2; have hcz2_3 : wv2.cell? ⟨gb7001, 3, none⟩ = some (.slice Aq0_3 l0_3.length cq0_3) := (blk_cell BK7001.out 3).trans rfl; have hcz2_f3 := blk_frozen BK7001.out 3) | ((with_reducible refine gate_callee (f := 61) rfl ?_); refine goesL_ (some 12) rfl rfl Try.func61 (by kernel_rfl) rfl #[.agg #[.int .i64 a0_1, .slice Aq0_2 l0_2.length cq0_2], .int .i64 m0_] rfl (by (try simp only [List.map_toArray, List.map_cons, List.map_nil]); first | done | rfl | (simp only [List.length_drop, List.length_take]; rfl)) ?_; (with_reducible refine (laws_markEpochBoxes.calls k a0_1 (fun k_ => okq0_2 k_) (.slice Aq0_2 l0_2.length cq0_2) l0_2 m0_ m1_ y1_ w0 _ ?side1 ?side2 A1q.out).mono ?_); (case side1 => repeat (first | (with_reducible first | exact HB.out | apply below_alloc | apply pw_below_drewN | apply below_drew1) | exact HB.out)); (case side2 => exact (Kd.S_kept HOq0_2.out (show Kept wv2 wv2 (fun k_ => False) from by repeat (first | (with_reducible first | exact Kept.refl _ _ | apply Kept.alloc | apply Kept.drewN | apply Kept.drew) | exact Kept.refl _ _)) (fun _ _ hs_ => hs_.elim))); rintro e wv3 ⟨rfl, hy0, hb, hkp⟩; refine ⟨_, rfl, ?_⟩; have hkW := (show Kept wv2 wv2 (fun k_ => False) from by repeat (first | (with_reducible first | exact Kept.refl _ _ | apply Kept.alloc | apply Kept.drewN | apply Kept.drew) | exact Kept.refl _ _)); have n0_ := Aside0.mk (Kd.R_kept (Kd.R_kept HOq0_0.out hkW (fun _ _ hs_ => hs_.elim)) hkp (fun k_ hk_ hs_ => (have i_ := HIq0_0.out k_ hk_; (have j_ := HIq0_2.out _ hs_; HPq0_0_q0_2.out _ i_.2 j_.2)))); have n1_ := Aside0.mk (hy0); have n2_ := Aside0.mk (Kd.S_kept (Kd.S_kept HOq0_3.out hkW (fun _ _ hs_ => hs_.elim)) hkp (fun k_ hk_ hs_ => (have i_ := HIq0_3.out k_ hk_; (have j_ := HIq0_2.out _ hs_; HPq0_3_q0_2.out _ i_.2 j_.2)))); have n3_ := Aside0.mk (blk_kept (blk_kept BK7001.out (show Kept wv2 wv2 (fun k_ => False) from by repeat (first | (with_reducible first | exact Kept.refl _ _ | apply Kept.alloc | apply Kept.drewN | apply Kept.drew) | exact Kept.refl _ _)) (fun hs_ => hs_.elim)) hkp (fun hs_ => (have i_ := HG7001.out; (have j_ := HIq0_2.out _ hs_; by have z0_ := HL1.out; have z1_ := HL2.out; omega)))); have n4_ := Aside0.mk (Kept.then_ (Kept.then_ HK.out hkW (fun k_ hs_ => .inr (hs_.elim))) hkp (fun k_ hs_ => .inl ((.inr (.inl (HIq0_2.out k_ hs_).2))))); have n5_ := Aside0.mk (hb); have n6_ := Aside0.mk ((Nat.le_trans hkW.1 hkp.1 : wv2.heap.size ≤ wv3.heap.size)); clear HOq0_0; clear HOq0_2; clear HOq0_3; clear BK7001; clear HK; clear HB; have HOq0_0 := n0_; have HOq0_2 := n1_; have HOq0_3 := n2_; have BK7001 := n3_; have HK := n4_; have HB := n5_; have HL3 := n6_; clear n0_ n1_ n2_ n3_ n4_ n5_ n6_; (try clear hb); (try clear hkW); (try clear hk2); (try clear hkp); (try clear hy0); have hcz3_0 : wv3.cell? ⟨gb7001, 0, none⟩ = some (.slice Aq0_0 l0_0.length cq0_0) := (blk_cell BK7001.out 0).trans rfl; have hcz3_f0 := blk_frozen BK7001.out 0; have hcz3_1 : wv3.cell? ⟨gb7001, 1, none⟩ = some (.int .i64 a0_1) := (blk_cell BK7001.out 1).trans rfl; have hcz3_f1 := blk_frozen BK7001.out 1; have hcz3_2 : wv3.cell? ⟨gb7001, 2, none⟩ = some (.slice Aq0_2 l0_2.length cq0_2) := (blk_cell BK7001.out 2).trans rfl; have hcz3_f2 := blk_frozen BK7001.out 2; have hcz3_3 : wv3.cell? ⟨gb7001, 3, none⟩ = some (.slice Aq0_3 l0_3.length cq0_3) := (blk_cell BK7001.out 3).trans rfl; have hcz3_f3 := blk_frozen BK7001.out 3) | ((with_reducible refine gate_callee (f := 107) rfl ?_); refine goesL_ (some 16) rfl rfl Try.func107 (by kernel_rfl) rfl #[.slice Aq0_3 l0_3.length cq0_3, .int .i64 m1_] rfl (by (try simp only [List.map_toArray, List.map_cons, List.map_nil]); first | done | rfl | (simp only [List.length_drop, List.length_take]; rfl)) ?_; (with_reducible refine (laws_markSealedBundleS.calls k (fun k_ => okq0_3 k_) (.slice Aq0_3 l0_3.length cq0_3) l0_3 m1_ m2_ y2_ w0 _ ?side1 ?side2 A2q.out).mono ?_); (case side1 => repeat (first | (with_reducible first | exact HB.out | apply below_alloc | apply pw_below_drewN | apply below_drew1) | exact HB.out)); (case side2 => exact (Kd.S_kept HOq0_3.out (show Kept wv3 wv3 (fun k_ => False) from by repeat (first | (with_reducible first | exact Kept.refl _ _ | apply Kept.alloc | apply Kept.drewN | apply Kept.drew) | exact Kept.refl _ _)) (fun _ _ hs_ => hs_.elim))); rintro e wv4 ⟨rfl, hy0, hb, hkp⟩; refine ⟨_, rfl, ?_⟩; have hkW := (show Kept wv3 wv3 (fun k_ => False) from by repeat (first | (with_reducible first | exact Kept.refl _ _ | apply Kept.alloc | apply Kept.drewN | apply Kept.drew) | exact Kept.refl _ _)); have n0_ := Aside0.mk (Kd.R_kept (Kd.R_kept HOq0_0.out hkW (fun _ _ hs_ => hs_.elim)) hkp (fun k_ hk_ hs_ => (have i_ := HIq0_0.out k_ hk_; (have j_ := HIq0_3.out _ hs_; HPq0_0_q0_3.out _ i_.2 j_.2)))); have n1_ := Aside0.mk (Kd.S_kept (Kd.S_kept HOq0_2.out hkW (fun _ _ hs_ => hs_.elim)) hkp (fun k_ hk_ hs_ => (have i_ := HIq0_2.out k_ hk_; (have j_ := HIq0_3.out _ hs_; HPq0_2_q0_3.out _ i_.2 j_.2)))); have n2_ := Aside0.mk (hy0); have n3_ := Aside0.mk (blk_kept (blk_kept BK7001.out (show Kept wv3 wv3 (fun k_ => False) from by repeat (first | (with_reducible first | exact Kept.refl _ _ | apply Kept.alloc | apply Kept.drewN | apply Kept.drew) | exact Kept.refl _ _)) (fun hs_ => hs_.elim)) hkp (fun hs_ => (have i_ := HG7001.out; (have j_ := HIq0_3.out _ hs_; by have z0_ := HL1.out; have z1_ := HL2.out; have z2_ := HL3.out; omega)))); have n4_ := Aside0.mk (Kept.then_ (Kept.then_ HK.out hkW (fun k_ hs_ => .inr (hs_.elim))) hkp (fun k_ hs_ => .inl ((.inr (.inr (HIq0_3.out k_ hs_).2))))); have n5_ := Aside0.mk (hb); have n6_ := Aside0.mk ((Nat.le_trans hkW.1 hkp.1 : wv3.heap.size ≤ wv4.heap.size)); clear HOq0_0; clear HOq0_2; clear HOq0_3; clear BK7001; clear HK; clear HB; have HOq0_0 := n0_; have HOq0_2 := n1_; have HOq0_3 := n2_; have BK7001 := n3_; have HK := n4_; have HB := n5_; have HL4 := n6_; clear n0_ n1_ n2_ n3_ n4_ n5_ n6_; (try clear hb); (try clear hkW); (try clear hk2); (try clear hkp); (try clear hy0); have hcz4_0 : wv4.cell? ⟨gb7001, 0, none⟩ = some (.slice Aq0_0 l0_0.length cq0_0) := (blk_cell BK7001.out 0).trans rfl; have hcz4_f0 := blk_frozen BK7001.out 0; have hcz4_1 : wv4.cell? ⟨gb7001, 1, none⟩ = some (.int .i64 a0_1) := (blk_cell BK7001.out 1).trans rfl; have hcz4_f1 := blk_frozen BK7001.out 1; have hcz4_2 : wv4.cell? ⟨gb7001, 2, none⟩ = some (.slice Aq0_2 l0_2.length cq0_2) := (blk_cell BK7001.out 2).trans rfl; have hcz4_f2 := blk_frozen BK7001.out 2; have hcz4_3 : wv4.cell? ⟨gb7001, 3, none⟩ = some (.slice Aq0_3 l0_3.length cq0_3) := (blk_cell BK7001.out 3).trans rfl; have hcz4_f3 := blk_frozen BK7001.out 3))
  go_ret
  exact ⟨rfl, Kd.R_mono (Kd.R_kept HOq0_0.out (show Kept wv4 wv4 (fun k_ => False) from by repeat (first | (with_reducible first | exact Kept.refl _ _ | apply Kept.alloc | apply Kept.drewN | apply Kept.drew) | exact Kept.refl _ _)) (fun _ _ hs_ => hs_.elim)) (fun k_ hk_ => (HIq0_0.out k_ hk_).2), Kd.S_mono (Kd.S_kept HOq0_2.out (show Kept wv4 wv4 (fun k_ => False) from by repeat (first | (with_reducible first | exact Kept.refl _ _ | apply Kept.alloc | apply Kept.drewN | apply Kept.drew) | exact Kept.refl _ _)) (fun _ _ hs_ => hs_.elim)) (fun k_ hk_ => (HIq0_2.out k_ hk_).2), Kd.S_mono (Kd.S_kept HOq0_3.out (show Kept wv4 wv4 (fun k_ => False) from by repeat (first | (with_reducible first | exact Kept.refl _ _ | apply Kept.alloc | apply Kept.drewN | apply Kept.drew) | exact Kept.refl _ _)) (fun _ _ hs_ => hs_.elim)) (fun k_ hk_ => (HIq0_3.out k_ hk_).2), by repeat (first | (with_reducible first | exact HB.out | apply below_alloc | apply pw_below_drewN | apply below_drew1) | exact HB.out), Kept.then_ HK.out (show Kept wv4 wv4 (fun k_ => False) from by repeat (first | (with_reducible first | exact Kept.refl _ _ | apply Kept.alloc | apply Kept.drewN | apply Kept.drew) | exact Kept.refl _ _)) (fun k_ hs_ => .inr (hs_.elim))⟩

/-! ### spec_l19Copy: function 110 -/
def spec_l19Copy.f (l0 : List (S114)) : Option ((List (S114))) := (some (([] : List (S114)) : List (S114))).bind fun y221 => (if y221.length + l0.length < 2932031007402 then (some (y221 ++ l0)) else (none))
set_option maxHeartbeats 8000000 in
set_option maxRecDepth 100000 in
theorem spec_l19Copy.calls (A0 : Option Addr) (c0 : Nat) (l0 : List (S114)) (r : List (S114)) (w : World) (hr0 : Kd.C k114 w A0 l0.length l0) (hc0 : l0.length ≤ c0) (h : spec_l19Copy.f l0 = some r) :
    Calls Try.prog 110 #[.slice A0 l0.length c0] w fun e w' => ∃ v0_ : Value, e = .returned (v0_) ∧ Kd.R k114 114 w' w.heap.size (fun _ => True) v0_ r ∧ Below w.heap.size w w' := by
  have HR0 := Aside0.mk hr0
  have HC0 := Aside0.mk hc0
  clear hr0 hc0
  have HB := Aside0.mk (Below.refl w.heap.size w)
  have H : ((some (([] : List (S114)) : List (S114))).bind fun y221 => (if y221.length + l0.length < 2932031007402 then (some (y221 ++ l0)) else (none))) = some r := h
  clear h
  obtain ⟨y221, hy221⟩ : ∃ y_ : List (S114), y_ = (([] : List (S114))) := ⟨_, rfl⟩
  replace H : (if y221.length + l0.length < 2932031007402 then (some (y221 ++ l0)) else (none)) = some r := by first | (rw [hy221]; with_reducible exact H) | (have H2_ := (Option.bind_some _ _).symm.trans H; rw [hy221]; with_reducible exact H2_) | (have H2_ := (Option.bind_some _ _).symm.trans H; with_reducible exact H2_) | with_reducible exact H | (rw [hy221]; exact H) | exact H
  have Ny221 := Aside0.mk hy221
  clear hy221
  by_cases c2 : y221.length + l0.length < 2932031007402
  · rw [if_pos c2] at H
    have LMc2 := Aside0.mk c2
    clear c2
    obtain ⟨y224, hy224⟩ : ∃ y_ : List (S114), y_ = (y221 ++ l0) := ⟨_, rfl⟩
    replace H : (some y224) = some r := by first | (rw [hy224]; with_reducible exact H) | (have H2_ := (Option.bind_some _ _).symm.trans H; rw [hy224]; with_reducible exact H2_) | (have H2_ := (Option.bind_some _ _).symm.trans H; with_reducible exact H2_) | with_reducible exact H | (rw [hy224]; exact H) | exact H
    have Ny224 := Aside0.mk hy224
    clear hy224
    obtain rfl := Option.some.inj H
    go_enter Try.func110, Try.ntmps110
    go_wp2_with (first | ((with_reducible refine gate_dst (N := 3) rfl ?_); refine Kd.R_lit k114 _ 114 ?hg (N := 3) ?hd (xs := ([] : List (S114))) (inner := []) (ok := fun _ => True) (okp := fun _ => True) ?hr ?hp (fun _ hk => hk) trivial (Below.refl _ _) (Nat.le_refl _) (by simp) ?_; (case hd => rfl); (case hg => rfl); (case hr => first | (go_simp; done) | (go_simp; rfl)); (case hp => exact (Reps.none _ _)); intro v222 w3 ho4 hb hg_ hnew_; clear hg_ hnew_; (first | rw [← Ny221.out] at ho4 | (simp only [Int.reduceToNat] at ho4; rw [← Ny221.out] at ho4)); have n0_ := Aside0.mk (Kd.R_lower ho4 (below_size (by repeat (first | (with_reducible first | exact HB.out | apply below_alloc | apply pw_below_drewN | apply below_drew1) | exact HB.out)))); have n1_ := Aside0.mk (below_step (by repeat (first | (with_reducible first | exact HB.out | apply below_alloc | apply pw_below_drewN | apply below_drew1) | exact HB.out)) hb); clear HB; have HO223 := n0_; have HB := n1_; clear n0_ n1_; clear hb ho4) | ((with_reducible refine gate_builtin (b := .append) (xs := #[.tmp 3, .tmp 4]) rfl ?_); at_builtin; refine Kd.R_append_rows k114 (w0 := w) w.heap.size rfl (.tmp 3) (.tmp 4) 33 114 (.agg #[(.int .i64 0), (.int .i64 0), (.int .i64 0), (.int .i64 0), (.int .i64 0), (.int .i64 0)]) 48 rfl Try.underlying33 info114 rfl (by decide) (by omega) v222 y221 l0 _ _ _ (fun _ => True) (fun _ => False) rfl rfl ?aO ?aR (fun _ _ h => h) (fun _ h => h.elim) ?aF ?aB ?aS ?aL ?_; (case aR => repeat (first | exact (Kd.C_below HR0.out HB.out) | (with_reducible refine Kd.C_alloc ?_ _) | (with_reducible refine Kd.C_drewN ?_ _) | (with_reducible refine Kd.C_drew ?_))); (case aB => exact (by repeat (first | (with_reducible first | exact HB.out | apply below_alloc | apply pw_below_drewN | apply below_drew1) | exact HB.out))); (case aF => exact (fun _ _ => trivial)); (case aO => exact (by (with_reducible repeat (first | apply Kd.R_alloc | apply Kd.R_drewN | apply Kd.R_drew)); exact HO223.out)); (case aS => exact (below_size (by repeat (first | (with_reducible first | exact HB.out | apply below_alloc | apply pw_below_drewN | apply below_drew1) | exact HB.out)))); (case aL => have := LMc2.out; omega); intro v225 w5 ho hb hg hat; rw [← Ny224.out] at ho; have n0_ := Aside0.mk (hb); have n1_ := Aside0.mk (ho); clear HB; clear HO223; have HB := n0_; have HO226 := n1_; clear n0_ n1_; clear ho hb hg hat))
    go_ret
    exact ⟨_, by first | rfl | (simp [errW_none, errW_some] <;> rfl) | (simp [*, errW_none, errW_some] <;> rfl), by (with_reducible repeat (first | apply Kd.R_alloc | apply Kd.R_drewN | apply Kd.R_drew)); exact HO226.out, by repeat (first | (with_reducible first | exact HB.out | apply below_alloc | apply pw_below_drewN | apply below_drew1) | exact HB.out)⟩
  · rw [if_neg c2] at H
    exact absurd H (by simp)

/-! ### spec_Max: function 111 -/
def spec_Max.f (a0 : Int) (a1 : Int) : Option (Int) := if a1 > a0 then (some a1) else (some a0)
set_option maxHeartbeats 8000000 in
set_option maxRecDepth 100000 in
theorem spec_Max.calls (a0 : Int) (a1 : Int) (r : Int) (w : World) (h : spec_Max.f a0 a1 = some r) :
    Calls Try.prog 111 #[.int .i64 a0, .int .i64 a1] w fun e w' => e = .returned (.int .i64 r) ∧ Drawn0 w w' := by
  have H : (if a1 > a0 then (some a1) else (some a0)) = some r := h
  clear h
  by_cases c3 : a1 > a0
  · rw [if_pos c3] at H
    have c3b0 : decide (a0 < a1) = true := decide_eq_true c3
    clear c3
    obtain rfl := Option.some.inj H
    go_enter Try.func111, Try.ntmps111
    go_wp2
    go_ret
    exact ⟨by first | rfl | (simp; done) | (simp [*]; done), by repeat (first | exact Drawn0.refl _ | apply Drawn0.step)⟩
  · rw [if_neg c3] at H
    have c3b0 : decide (a0 < a1) = false := decide_eq_false c3
    clear c3
    obtain rfl := Option.some.inj H
    go_enter Try.func111, Try.ntmps111
    go_wp2
    go_ret
    exact ⟨by first | rfl | (simp; done) | (simp [*]; done), by repeat (first | exact Drawn0.refl _ | apply Drawn0.step)⟩

/-! ### spec_Min: function 112 -/
def spec_Min.f (a0 : Int) (a1 : Int) : Option (Int) := if a1 < a0 then (some a1) else (some a0)
set_option maxHeartbeats 8000000 in
set_option maxRecDepth 100000 in
theorem spec_Min.calls (a0 : Int) (a1 : Int) (r : Int) (w : World) (h : spec_Min.f a0 a1 = some r) :
    Calls Try.prog 112 #[.int .i64 a0, .int .i64 a1] w fun e w' => e = .returned (.int .i64 r) ∧ Drawn0 w w' := by
  have H : (if a1 < a0 then (some a1) else (some a0)) = some r := h
  clear h
  by_cases c3 : a1 < a0
  · rw [if_pos c3] at H
    have c3b0 : decide (a1 < a0) = true := decide_eq_true c3
    clear c3
    obtain rfl := Option.some.inj H
    go_enter Try.func112, Try.ntmps112
    go_wp2
    go_ret
    exact ⟨by first | rfl | (simp; done) | (simp [*]; done), by repeat (first | exact Drawn0.refl _ | apply Drawn0.step)⟩
  · rw [if_neg c3] at H
    have c3b0 : decide (a1 < a0) = false := decide_eq_false c3
    clear c3
    obtain rfl := Option.some.inj H
    go_enter Try.func112, Try.ntmps112
    go_wp2
    go_ret
    exact ⟨by first | rfl | (simp; done) | (simp [*]; done), by repeat (first | exact Drawn0.refl _ | apply Drawn0.step)⟩

/-! ### spec_FetchLog: function 42 -/
def spec_FetchLog.f (l0_0 : List (S114)) (a0_1 : Int) (l0_2 : List (S161)) (l0_3 : List (S71)) (a1 : Int) : Option ((List (S114))) := (spec_Min.f a1 (l0_0.length : Int)).bind fun t228 => ((spec_Max.f 0 t228).bind fun t229 => (if 0 ≤ t229 then (if t229 ≤ (l0_0.length : Int) then ((spec_l19Copy.f (l0_0.take (t229 : Int).toNat)).bind fun t234 => (some t234)) else (none)) else (none)))
def spec_FetchLog.T1 : Bool × List (List Nat × List Nat) := (true, [([], []), ([0], [0]), ([], []), ([], []), ([3], [3]), ([4], [4]), ([2, 5], [2, 5]), ([6, 6], [6]), ([1, 7], [1, 7]), ([8, 7], [8]), ([9, 9, 0, 1, 2, 3, 4, 5, 6, 7, 8, 9], [9])])
def spec_FetchLog.B1 : List Nat := [0, 1, 0, 0, 8, 24, 60, 124, 255, 511, 1023]
theorem spec_FetchLog.tab1 : rtab .any (opsOf Try.f42 1) = spec_FetchLog.T1 := by kernel_rfl
theorem spec_FetchLog.bits1 : waitsOk spec_FetchLog.T1.2 spec_FetchLog.B1 = true := by kernel_rfl
set_option maxHeartbeats 8000000 in
set_option maxRecDepth 100000 in
theorem spec_FetchLog.calls (A0_0 : Option Addr) (c0_0 : Nat) (l0_0 : List (S114)) (a0_1 : Int) (A0_2 : Option Addr) (c0_2 : Nat) (l0_2 : List (S161)) (A0_3 : Option Addr) (c0_3 : Nat) (l0_3 : List (S71)) (a1 : Int) (r : List (S114)) (w : World) (hr0_0 : Kd.C k114 w A0_0 l0_0.length l0_0) (hc0_0 : l0_0.length ≤ c0_0) (hr0_2 : Kd.C k161 w A0_2 l0_2.length l0_2) (hc0_2 : l0_2.length ≤ c0_2) (hr0_3 : Kd.C k71 w A0_3 l0_3.length l0_3) (hc0_3 : l0_3.length ≤ c0_3) (h : spec_FetchLog.f l0_0 a0_1 l0_2 l0_3 a1 = some r) :
    Calls Try.prog 42 #[.agg #[.slice A0_0 l0_0.length c0_0, .int .i64 a0_1, .slice A0_2 l0_2.length c0_2, .slice A0_3 l0_3.length c0_3], .int .i64 a1] w fun e w' => ∃ v0_ : Value, e = .returned (v0_) ∧ Kd.R k114 114 w' w.heap.size (fun _ => True) v0_ r ∧ Below w.heap.size w w' := by
  have hu62 := Try.underlying62
  have HR0_0 := Aside0.mk hr0_0
  have HC0_0 := Aside0.mk hc0_0
  clear hr0_0 hc0_0
  have HR0_2 := Aside0.mk hr0_2
  have HC0_2 := Aside0.mk hc0_2
  clear hr0_2 hc0_2
  have HR0_3 := Aside0.mk hr0_3
  have HC0_3 := Aside0.mk hc0_3
  clear hr0_3 hc0_3
  have HB := Aside0.mk (Below.refl w.heap.size w)
  have H : ((spec_Min.f a1 (l0_0.length : Int)).bind fun t228 => ((spec_Max.f 0 t228).bind fun t229 => (if 0 ≤ t229 then (if t229 ≤ (l0_0.length : Int) then ((spec_l19Copy.f (l0_0.take (t229 : Int).toNat)).bind fun t234 => (some t234)) else (none)) else (none)))) = some r := h
  clear h
  replace H := Option.bind_eq_some_iff.mp H
  obtain ⟨t228, A30, H⟩ := H
  replace H : ((spec_Max.f 0 t228).bind fun t229 => (if 0 ≤ t229 then (if t229 ≤ (l0_0.length : Int) then ((spec_l19Copy.f (l0_0.take (t229 : Int).toNat)).bind fun t234 => (some t234)) else (none)) else (none))) = some r := H
  have A3 := Aside0.mk A30
  clear A30
  replace H := Option.bind_eq_some_iff.mp H
  obtain ⟨t229, A40, H⟩ := H
  replace H : (if 0 ≤ t229 then (if t229 ≤ (l0_0.length : Int) then ((spec_l19Copy.f (l0_0.take (t229 : Int).toNat)).bind fun t234 => (some t234)) else (none)) else (none)) = some r := H
  have A4 := Aside0.mk A40
  clear A40
  by_cases c5 : 0 ≤ t229
  · rw [if_pos c5] at H
    have c5b0 := eq_true c5
    have c5b1 : decide (0 ≤ t229) = true := decide_eq_true c5
    clear c5
    by_cases c6 : t229 ≤ (l0_0.length : Int)
    · rw [if_pos c6] at H
      have c6b0 := eq_true c6
      have c6b1 : decide (t229 ≤ (l0_0.length : Int)) = true := decide_eq_true c6
      clear c6
      obtain ⟨y230, hy230⟩ : ∃ y_ : List (S114), y_ = (l0_0.take (t229 : Int).toNat) := ⟨_, rfl⟩
      replace H : ((spec_l19Copy.f y230).bind fun t234 => (some t234)) = some r := by first | (rw [hy230]; with_reducible exact H) | (have H2_ := (Option.bind_some _ _).symm.trans H; rw [hy230]; with_reducible exact H2_) | (have H2_ := (Option.bind_some _ _).symm.trans H; with_reducible exact H2_) | with_reducible exact H | (rw [hy230]; exact H) | exact H
      have Ny230 := Aside0.mk hy230
      clear hy230
      replace H := Option.bind_eq_some_iff.mp H
      obtain ⟨t234, A70, H⟩ := H
      replace H : (some t234) = some r := H
      have A7 := Aside0.mk A70
      clear A70
      obtain rfl := Option.some.inj H
      go_enter Try.func42, Try.ntmps42
      try go_wp2_with (first | ((with_reducible refine gate_dst (N := 2) rfl ?_); refine box_event ?hg (N := 2) ?hd (cs := #[.slice A0_0 l0_0.length c0_0, .int .i64 a0_1, .slice A0_2 l0_2.length c0_2, .slice A0_3 l0_3.length c0_3]) (t := 62) ?hr ?_; (case hd => rfl); (case hg => rfl); (case hr => first | (go_simp; done) | (go_simp; rfl)); intro gb227 hg w8 hbox hb; have n0_ := Aside0.mk (below_step (by repeat (first | (with_reducible first | exact HB.out | apply below_alloc | apply pw_below_drewN | apply below_drew1) | exact HB.out)) hb); have n1_ := Aside0.mk (hbox); have n2_ := Aside0.mk ((by rw [hg]; exact (below_size (by repeat (first | (with_reducible first | exact HB.out | apply below_alloc | apply pw_below_drewN | apply below_drew1) | exact HB.out))) : w.heap.size ≤ gb227)); have n3_ := Aside0.mk ((by rw [hg]; exact (below_size (by repeat (first | (with_reducible first | exact HB.out | apply below_alloc | apply pw_below_drewN | apply below_drew1) | exact HB.out))) : w.heap.size ≤ gb227)); clear HB; have HB := n0_; have BK227 := n1_; have GW227 := n2_; have GE227 := n3_; clear n0_ n1_ n2_ n3_; clear hb hbox hg))
      have n0_ := Aside0.mk (blk_drew BK227.out)
      have n1_ := Aside0.mk (below_drew1 HB.out)
      clear BK227
      clear HB
      have BK227 := n0_
      have HB := n1_
      clear n0_ n1_
      refine start_ (n := 11) (S := fun w' => w'.cell? ⟨gb227, 0, none⟩ = some (.slice A0_0 l0_0.length c0_0) ∧ w'.cell? ⟨gb227, 1, none⟩ = some (.int .i64 a0_1) ∧ w'.cell? ⟨gb227, 2, none⟩ = some (.slice A0_2 l0_2.length c0_2) ∧ w'.cell? ⟨gb227, 3, none⟩ = some (.slice A0_3 l0_3.length c0_3)) (ds := []) #[false, false, false, false, false, false, false, false, false, false, false] (by kernel_rfl) rfl rfl ⟨(blk_cell BK227.out 0).trans rfl, (blk_cell BK227.out 1).trans rfl, (blk_cell BK227.out 2).trans rfl, (blk_cell BK227.out 3).trans rfl⟩ (fun hHeld => ?_); refine with_tabW spec_FetchLog.tab1 spec_FetchLog.bits1 (fun HT_ HW_ => ?_)
      generalize w8.drew = w9 at BK227 HB hHeld ⊢
      refine pure_ (i := 0) (N := some 5) (v := ?_) (a' := ?_) #[true, false, false, false, false, false, false, false, false, false, false] rfl rfl (any_of HT_.out (by kernel_rfl)) (fun _ _ _ h => h) (Or.inl ⟨by rfl, ?_⟩) ?_ ?_
      rotate_left
      · intro w'
        go_simp
        with_reducible rfl
      rotate_left
      · simp only [Act.put, List.setIfInBounds_toArray, List.set_cons_zero, List.set_cons_succ, i64_w, i32_w]
        rfl
      refine pure_ (i := 2) (N := some 7) (v := ?_) (a' := ?_) #[true, false, true, false, false, false, false, false, false, false, false] rfl rfl (any_of HT_.out (by kernel_rfl)) (fun _ _ _ h => h) (Or.inl ⟨by rfl, ?_⟩) ?_ ?_
      rotate_left
      · intro w'
        go_simp
        with_reducible rfl
      rotate_left
      · simp only [Act.put, List.setIfInBounds_toArray, List.set_cons_zero, List.set_cons_succ, i64_w, i32_w]
        rfl
      refine pure_ (i := 3) (N := some 8) (v := ?_) (a' := ?_) #[true, false, true, true, false, false, false, false, false, false, false] rfl rfl (any_of HT_.out (by kernel_rfl)) (fun _ _ _ h => h) (Or.inl ⟨by rfl, ?_⟩) ?_ ?_
      rotate_left
      · intro w'
        go_simp
        with_reducible rfl
      rotate_left
      · simp only [Act.put, List.setIfInBounds_toArray, List.set_cons_zero, List.set_cons_succ, i64_w, i32_w]
        rfl
      refine take_ (i := 1) (N := some 6) (v := ?_) (a' := ?_) #[true, true, true, true, false, false, false, false, false, false, false] rfl rfl (take_ofW HT_.out HW_.out (by kernel_rfl)) (fun _ _ _ h => h) (Or.inl ⟨by rfl, ?_⟩) hHeld ?_ ?_
      rotate_left
      · rintro w' ⟨s0, s1, s2, s3⟩
        go_simp
        with_reducible rfl
      rotate_left
      · simp only [Act.put, List.setIfInBounds_toArray, List.set_cons_zero, List.set_cons_succ, i64_w, i32_w]
        rfl
      refine take_ (i := 4) (N := some 9) (v := ?_) (a' := ?_) #[true, true, true, true, true, false, false, false, false, false, false] rfl rfl (take_ofW HT_.out HW_.out (by kernel_rfl)) (fun _ _ _ h => h) (Or.inl ⟨by rfl, ?_⟩) hHeld ?_ ?_
      rotate_left
      · rintro w' ⟨s0, s1, s2, s3⟩
        go_simp
        with_reducible rfl
      rotate_left
      · simp only [Act.put, List.setIfInBounds_toArray, List.set_cons_zero, List.set_cons_succ, i64_w, i32_w]
        rfl
      refine pure_ (i := 5) (N := some 10) (v := ?_) (a' := ?_) #[true, true, true, true, true, true, false, false, false, false, false] rfl rfl (any_of HT_.out (by kernel_rfl)) (fun _ _ _ h => h) (Or.inl ⟨by rfl, ?_⟩) ?_ ?_
      rotate_left
      · intro w'
        go_simp
        with_reducible rfl
      rotate_left
      · simp only [Act.put, List.setIfInBounds_toArray, List.set_cons_zero, List.set_cons_succ, i64_w, i32_w]
        rfl
      refine one_ (i := 6) (N := some 11) #[true, true, true, true, true, true, true, false, false, false, false] rfl rfl (one_of HT_.out (by kernel_rfl)) (by decide) (fun K hK => ?_)
      refine goes_ Try.func112 (by kernel_rfl) rfl #[.int .i64 a1, .int .i64 (l0_0.length : Int)] (by rfl) rfl rfl (by (try simp only [List.map_toArray, List.map_cons, List.map_nil]); first | done | rfl | (simp only [List.length_drop, List.length_take]; rfl)) ?_
      with_reducible refine (spec_Min.calls a1 (l0_0.length : Int) t228 _ A3.out).mono ?_
      rintro e w' ⟨rfl, ⟨nd, rfl⟩⟩
      refine ⟨_, rfl, ?_⟩
      refine hK.out _ _ ⟨(blk_cell BK227.out 0).trans rfl, (blk_cell BK227.out 1).trans rfl, (blk_cell BK227.out 2).trans rfl, (blk_cell BK227.out 3).trans rfl⟩ (fun hHeld => ?_)
      clear hK K
      refine norm_ (a' := ?_) ?_ ?_
      rotate_left
      · show Act.put _ (some 11) _ = _
        simp only [Act.put, List.setIfInBounds_toArray, List.set_cons_zero, List.set_cons_succ, i64_w, i32_w]
        rfl
      refine one_ (i := 7) (N := some 12) #[true, true, true, true, true, true, true, true, false, false, false] rfl rfl (one_of HT_.out (by kernel_rfl)) (by decide) (fun K hK => ?_)
      refine goes_ Try.func111 (by kernel_rfl) rfl #[.int .i64 0, .int .i64 t228] (by rfl) rfl rfl (by (try simp only [List.map_toArray, List.map_cons, List.map_nil]); first | done | rfl | (simp only [List.length_drop, List.length_take]; rfl)) ?_
      with_reducible refine (spec_Max.calls 0 t228 t229 _ A4.out).mono ?_
      rintro e w' ⟨rfl, ⟨nd, rfl⟩⟩
      refine ⟨_, rfl, ?_⟩
      have q10 : (t229 : Int) ≤ ((l0_0.length : Int) : Int) := of_decide_eq_true (by first | (with_reducible assumption) | assumption)
      obtain ⟨i010, hi010, _, hsz10, _⟩ := info_parts info114
      have hroom10 : l0_0.length ≤ c0_0 := HC0_0.out
      have hC10 : Kd.C k114 _ A0_0 l0_0.length l0_0 := HR0_0.out
      have hcut10 := cut_to (P := Try.prog) 33 114 .i64 Try.underlying33 hi010 A0_0 l0_0.length c0_0 t229 (of_decide_eq_true (by first | (with_reducible assumption) | assumption)) q10 hroom10
      have hr10 := Kd.C_take (m := (t229 : Int).toNat) hC10 (by omega)
      have hy10 : y230.length = (t229 : Int).toNat := (by rw [Ny230.out, List.length_take]; omega)
      rw [← Ny230.out] at hr10
      rw [← hy10] at hcut10
      have HR233 := Aside0.mk hr10
      have HC233 := Aside0.mk (show y230.length ≤ c0_0 from by omega)
      clear hr10 hC10 hroom10 hi010 hsz10
      have KY10 := Aside0.mk hy10
      clear hy10
      replace q10 := eq_true q10
      refine hK.out _ _ ⟨(blk_cell BK227.out 0).trans rfl, (blk_cell BK227.out 1).trans rfl, (blk_cell BK227.out 2).trans rfl, (blk_cell BK227.out 3).trans rfl⟩ (fun hHeld => ?_)
      clear hK K
      refine norm_ (a' := ?_) ?_ ?_
      rotate_left
      · show Act.put _ (some 12) _ = _
        simp only [Act.put, List.setIfInBounds_toArray, List.set_cons_zero, List.set_cons_succ, i64_w, i32_w]
        rfl
      refine pure_ (i := 8) (N := some 13) (v := ?_) (a' := ?_) #[true, true, true, true, true, true, true, true, true, false, false] rfl rfl (any_of HT_.out (by kernel_rfl)) (fun _ _ _ h => h) (Or.inl ⟨by rfl, ?_⟩) ?_ ?_
      rotate_left
      · intro w'
        go_simp
        with_reducible rfl
      rotate_left
      · simp only [Act.put, List.setIfInBounds_toArray, List.set_cons_zero, List.set_cons_succ, i64_w, i32_w]
        rfl
      refine one_ (i := 9) (N := some 14) #[true, true, true, true, true, true, true, true, true, true, false] rfl rfl (one_of HT_.out (by kernel_rfl)) (by decide) (fun K hK => ?_)
      refine goes_ Try.func110 (by kernel_rfl) rfl #[.slice A0_0 y230.length c0_0] (by rfl) rfl rfl (by (try simp only [List.map_toArray, List.map_cons, List.map_nil]); first | done | rfl | (simp only [List.length_drop, List.length_take]; rfl)) ?_
      with_reducible refine (spec_l19Copy.calls _ _ y230 t234 _ ?side1 ?side2 A7.out).mono ?_
      (case side1 => repeat (first | exact (Kd.C_below HR233.out (by repeat (first | (with_reducible first | exact HB.out | apply below_alloc | apply pw_below_drewN | apply below_drew1 | refine below_set ?_ GE227.out) | exact HB.out))) | (with_reducible refine Kd.C_alloc ?_ _) | (with_reducible refine Kd.C_drewN ?_ _) | (with_reducible refine Kd.C_drew ?_)))
      (case side2 => exact HC233.out)
      rintro e w11 ⟨v235, rfl, ho0, hb⟩
      refine ⟨_, rfl, ?_⟩
      have n0_ := Aside0.mk (Kd.R_lower ho0 (below_size (by repeat (first | (with_reducible first | exact HB.out | apply below_alloc | apply pw_below_drewN | apply below_drew1 | refine below_set ?_ GE227.out) | exact HB.out))))
      have n1_ := Aside0.mk (blk_below (g := gb227) (o := .cells #[.slice A0_0 l0_0.length c0_0, .int .i64 a0_1, .slice A0_2 l0_2.length c0_2, .slice A0_3 l0_3.length c0_3] 62 (0, 0)) (by (with_reducible repeat (first | refine blk_drewN ?_ _ | refine blk_drew ?_ | refine blk_alloc ?_ _)); exact BK227.out) hb)
      have n2_ := Aside0.mk (below_step (by repeat (first | (with_reducible first | exact HB.out | apply below_alloc | apply pw_below_drewN | apply below_drew1 | refine below_set ?_ GE227.out) | exact HB.out)) hb)
      clear BK227
      clear HB
      have HO236 := n0_
      have BK227 := n1_
      have HB := n2_
      clear n0_ n1_ n2_
      (try clear hb)
      (try clear hb2)
      (try clear hk)
      (try clear hi)
      (try clear ho0)
      refine hK.out _ _ ⟨(blk_cell BK227.out 0).trans rfl, (blk_cell BK227.out 1).trans rfl, (blk_cell BK227.out 2).trans rfl, (blk_cell BK227.out 3).trans rfl⟩ (fun hHeld => ?_)
      clear hK K
      refine norm_ (a' := ?_) ?_ ?_
      rotate_left
      · show Act.put _ (some 14) _ = _
        simp only [Act.put, List.setIfInBounds_toArray, List.set_cons_zero, List.set_cons_succ, i64_w, i32_w]
        rfl
      refine pure_ (i := 10) (N := some 4) (v := ?_) (a' := ?_) #[true, true, true, true, true, true, true, true, true, true, true] rfl rfl (any_of HT_.out (by kernel_rfl)) (fun _ _ _ h => h) (Or.inl ⟨by rfl, ?_⟩) ?_ ?_
      rotate_left
      · intro w'
        go_simp
        with_reducible rfl
      rotate_left
      · simp only [Act.put, List.setIfInBounds_toArray, List.set_cons_zero, List.set_cons_succ, i64_w, i32_w]
        rfl
      refine done_ (done_of HT_.out (by kernel_rfl)) ?_
      try go_wp2
      go_ret
      exact ⟨_, by first | rfl | (simp [errW_none, errW_some] <;> rfl) | (simp [*, errW_none, errW_some] <;> rfl), by (with_reducible repeat (first | apply Kd.R_alloc | apply Kd.R_drewN | apply Kd.R_drew)); exact HO236.out, by repeat (first | (with_reducible first | exact HB.out | apply below_alloc | apply pw_below_drewN | apply below_drew1 | refine below_set ?_ GE227.out) | exact HB.out)⟩
    · rw [if_neg c6] at H
      exact absurd H (by simp)
  · rw [if_neg c5] at H
    exact absurd H (by simp)

/-! ### impl_copyLog: function 113 -/
def impl_copyLog.f (l0 : List (S114)) : Option ((List (S114))) := (some (([] : List (S114)) : List (S114))).bind fun y237 => (if y237.length + l0.length < 2932031007402 then (some (y237 ++ l0)) else (none))
set_option maxHeartbeats 8000000 in
set_option maxRecDepth 100000 in
theorem impl_copyLog.calls (A0 : Option Addr) (c0 : Nat) (l0 : List (S114)) (r : List (S114)) (w : World) (hr0 : Kd.C k114 w A0 l0.length l0) (hc0 : l0.length ≤ c0) (h : impl_copyLog.f l0 = some r) :
    Calls Try.prog 113 #[.slice A0 l0.length c0] w fun e w' => ∃ v0_ : Value, e = .returned (v0_) ∧ Kd.R k114 114 w' w.heap.size (fun _ => True) v0_ r ∧ Below w.heap.size w w' := by
  have HR0 := Aside0.mk hr0
  have HC0 := Aside0.mk hc0
  clear hr0 hc0
  have HB := Aside0.mk (Below.refl w.heap.size w)
  have H : ((some (([] : List (S114)) : List (S114))).bind fun y237 => (if y237.length + l0.length < 2932031007402 then (some (y237 ++ l0)) else (none))) = some r := h
  clear h
  obtain ⟨y237, hy237⟩ : ∃ y_ : List (S114), y_ = (([] : List (S114))) := ⟨_, rfl⟩
  replace H : (if y237.length + l0.length < 2932031007402 then (some (y237 ++ l0)) else (none)) = some r := by first | (rw [hy237]; with_reducible exact H) | (have H2_ := (Option.bind_some _ _).symm.trans H; rw [hy237]; with_reducible exact H2_) | (have H2_ := (Option.bind_some _ _).symm.trans H; with_reducible exact H2_) | with_reducible exact H | (rw [hy237]; exact H) | exact H
  have Ny237 := Aside0.mk hy237
  clear hy237
  by_cases c2 : y237.length + l0.length < 2932031007402
  · rw [if_pos c2] at H
    have LMc2 := Aside0.mk c2
    clear c2
    obtain ⟨y240, hy240⟩ : ∃ y_ : List (S114), y_ = (y237 ++ l0) := ⟨_, rfl⟩
    replace H : (some y240) = some r := by first | (rw [hy240]; with_reducible exact H) | (have H2_ := (Option.bind_some _ _).symm.trans H; rw [hy240]; with_reducible exact H2_) | (have H2_ := (Option.bind_some _ _).symm.trans H; with_reducible exact H2_) | with_reducible exact H | (rw [hy240]; exact H) | exact H
    have Ny240 := Aside0.mk hy240
    clear hy240
    obtain rfl := Option.some.inj H
    go_enter Try.func113, Try.ntmps113
    go_wp2_with (first | ((with_reducible refine gate_dst (N := 3) rfl ?_); refine Kd.R_lit k114 _ 114 ?hg (N := 3) ?hd (xs := ([] : List (S114))) (inner := []) (ok := fun _ => True) (okp := fun _ => True) ?hr ?hp (fun _ hk => hk) trivial (Below.refl _ _) (Nat.le_refl _) (by simp) ?_; (case hd => rfl); (case hg => rfl); (case hr => first | (go_simp; done) | (go_simp; rfl)); (case hp => exact (Reps.none _ _)); intro v238 w3 ho4 hb hg_ hnew_; clear hg_ hnew_; (first | rw [← Ny237.out] at ho4 | (simp only [Int.reduceToNat] at ho4; rw [← Ny237.out] at ho4)); have n0_ := Aside0.mk (Kd.R_lower ho4 (below_size (by repeat (first | (with_reducible first | exact HB.out | apply below_alloc | apply pw_below_drewN | apply below_drew1) | exact HB.out)))); have n1_ := Aside0.mk (below_step (by repeat (first | (with_reducible first | exact HB.out | apply below_alloc | apply pw_below_drewN | apply below_drew1) | exact HB.out)) hb); clear HB; have HO239 := n0_; have HB := n1_; clear n0_ n1_; clear hb ho4) | ((with_reducible refine gate_builtin (b := .append) (xs := #[.tmp 3, .tmp 4]) rfl ?_); at_builtin; refine Kd.R_append_rows k114 (w0 := w) w.heap.size rfl (.tmp 3) (.tmp 4) 33 114 (.agg #[(.int .i64 0), (.int .i64 0), (.int .i64 0), (.int .i64 0), (.int .i64 0), (.int .i64 0)]) 48 rfl Try.underlying33 info114 rfl (by decide) (by omega) v238 y237 l0 _ _ _ (fun _ => True) (fun _ => False) rfl rfl ?aO ?aR (fun _ _ h => h) (fun _ h => h.elim) ?aF ?aB ?aS ?aL ?_; (case aR => repeat (first | exact (Kd.C_below HR0.out HB.out) | (with_reducible refine Kd.C_alloc ?_ _) | (with_reducible refine Kd.C_drewN ?_ _) | (with_reducible refine Kd.C_drew ?_))); (case aB => exact (by repeat (first | (with_reducible first | exact HB.out | apply below_alloc | apply pw_below_drewN | apply below_drew1) | exact HB.out))); (case aF => exact (fun _ _ => trivial)); (case aO => exact (by (with_reducible repeat (first | apply Kd.R_alloc | apply Kd.R_drewN | apply Kd.R_drew)); exact HO239.out)); (case aS => exact (below_size (by repeat (first | (with_reducible first | exact HB.out | apply below_alloc | apply pw_below_drewN | apply below_drew1) | exact HB.out)))); (case aL => have := LMc2.out; omega); intro v241 w5 ho hb hg hat; rw [← Ny240.out] at ho; have n0_ := Aside0.mk (hb); have n1_ := Aside0.mk (ho); clear HB; clear HO239; have HB := n0_; have HO242 := n1_; clear n0_ n1_; clear ho hb hg hat))
    go_ret
    exact ⟨_, by first | rfl | (simp [errW_none, errW_some] <;> rfl) | (simp [*, errW_none, errW_some] <;> rfl), by (with_reducible repeat (first | apply Kd.R_alloc | apply Kd.R_drewN | apply Kd.R_drew)); exact HO242.out, by repeat (first | (with_reducible first | exact HB.out | apply below_alloc | apply pw_below_drewN | apply below_drew1) | exact HB.out)⟩
  · rw [if_neg c2] at H
    exact absurd H (by simp)

/-! ### impl_FetchLog: function 43 -/
def impl_FetchLog.f (l0_0 : List (S114)) (a0_1 : Int) (l0_2 : List (S161)) (l0_3 : List (S71)) (a1 : Int) : Option ((List (S114))) := if 0 ≤ (mx 0 (mn a1 (l0_0.length : Int))) then (if (mx 0 (mn a1 (l0_0.length : Int))) ≤ (l0_0.length : Int) then ((impl_copyLog.f (l0_0.take ((mx 0 (mn a1 (l0_0.length : Int))) : Int).toNat)).bind fun t248 => (some t248)) else (none)) else (none)
set_option maxHeartbeats 8000000 in
set_option maxRecDepth 100000 in
theorem impl_FetchLog.calls (A0_0 : Option Addr) (c0_0 : Nat) (l0_0 : List (S114)) (a0_1 : Int) (A0_2 : Option Addr) (c0_2 : Nat) (l0_2 : List (S161)) (A0_3 : Option Addr) (c0_3 : Nat) (l0_3 : List (S71)) (a1 : Int) (r : List (S114)) (w : World) (hr0_0 : Kd.C k114 w A0_0 l0_0.length l0_0) (hc0_0 : l0_0.length ≤ c0_0) (hr0_2 : Kd.C k161 w A0_2 l0_2.length l0_2) (hc0_2 : l0_2.length ≤ c0_2) (hr0_3 : Kd.C k71 w A0_3 l0_3.length l0_3) (hc0_3 : l0_3.length ≤ c0_3) (h : impl_FetchLog.f l0_0 a0_1 l0_2 l0_3 a1 = some r) :
    Calls Try.prog 43 #[.agg #[.slice A0_0 l0_0.length c0_0, .int .i64 a0_1, .slice A0_2 l0_2.length c0_2, .slice A0_3 l0_3.length c0_3], .int .i64 a1] w fun e w' => ∃ v0_ : Value, e = .returned (v0_) ∧ Kd.R k114 114 w' w.heap.size (fun _ => True) v0_ r ∧ Below w.heap.size w w' := by
  have hu62 := Try.underlying62
  have HR0_0 := Aside0.mk hr0_0
  have HC0_0 := Aside0.mk hc0_0
  clear hr0_0 hc0_0
  have HR0_2 := Aside0.mk hr0_2
  have HC0_2 := Aside0.mk hc0_2
  clear hr0_2 hc0_2
  have HR0_3 := Aside0.mk hr0_3
  have HC0_3 := Aside0.mk hc0_3
  clear hr0_3 hc0_3
  have HB := Aside0.mk (Below.refl w.heap.size w)
  have H : (if 0 ≤ (mx 0 (mn a1 (l0_0.length : Int))) then (if (mx 0 (mn a1 (l0_0.length : Int))) ≤ (l0_0.length : Int) then ((impl_copyLog.f (l0_0.take ((mx 0 (mn a1 (l0_0.length : Int))) : Int).toNat)).bind fun t248 => (some t248)) else (none)) else (none)) = some r := h
  clear h
  obtain ⟨ji3, hji3⟩ : ∃ j_ : Int, (mn a1 (l0_0.length : Int)) = j_ := ⟨_, rfl⟩
  replace H : (if 0 ≤ (mx 0 (ji3)) then (if (mx 0 (ji3)) ≤ (l0_0.length : Int) then ((impl_copyLog.f (l0_0.take ((mx 0 (ji3)) : Int).toNat)).bind fun t248 => (some t248)) else (none)) else (none)) = some r := by first | (rw [hji3] at H; exact H) | (simp only [hji3] at H ⊢; exact H)
  have hji3_ : (if (l0_0.length : Int) < a1 then (l0_0.length : Int) else a1) = ji3 := hji3
  obtain ⟨ji4, hji4⟩ : ∃ j_ : Int, (mx 0 (ji3)) = j_ := ⟨_, rfl⟩
  replace H : (if 0 ≤ (ji4) then (if (ji4) ≤ (l0_0.length : Int) then ((impl_copyLog.f (l0_0.take ((ji4) : Int).toNat)).bind fun t248 => (some t248)) else (none)) else (none)) = some r := by first | (rw [hji4] at H; exact H) | (simp only [hji4] at H ⊢; exact H)
  have hji4_ : (if 0 < (ji3) then (ji3) else 0) = ji4 := hji4
  by_cases c5 : 0 ≤ (ji4)
  · rw [if_pos c5] at H
    have c5b0 := eq_true c5
    have c5b1 : decide (0 ≤ (ji4)) = true := decide_eq_true c5
    clear c5
    by_cases c6 : (ji4) ≤ (l0_0.length : Int)
    · rw [if_pos c6] at H
      have c6b0 := eq_true c6
      have c6b1 : decide ((ji4) ≤ (l0_0.length : Int)) = true := decide_eq_true c6
      clear c6
      obtain ⟨y244, hy244⟩ : ∃ y_ : List (S114), y_ = (l0_0.take ((ji4) : Int).toNat) := ⟨_, rfl⟩
      replace H : ((impl_copyLog.f y244).bind fun t248 => (some t248)) = some r := by first | (rw [hy244]; with_reducible exact H) | (have H2_ := (Option.bind_some _ _).symm.trans H; rw [hy244]; with_reducible exact H2_) | (have H2_ := (Option.bind_some _ _).symm.trans H; with_reducible exact H2_) | with_reducible exact H | (rw [hy244]; exact H) | exact H
      have Ny244 := Aside0.mk hy244
      clear hy244
      replace H := Option.bind_eq_some_iff.mp H
      obtain ⟨t248, A70, H⟩ := H
      replace H : (some t248) = some r := H
      have A7 := Aside0.mk A70
      clear A70
      obtain rfl := Option.some.inj H
      go_enter Try.func43, Try.ntmps43
      go_wp2_with (first | ((with_reducible refine gate_dst (N := 2) rfl ?_); refine box_event ?hg (N := 2) ?hd (cs := #[.slice A0_0 l0_0.length c0_0, .int .i64 a0_1, .slice A0_2 l0_2.length c0_2, .slice A0_3 l0_3.length c0_3]) (t := 62) ?hr ?_; (case hd => rfl); (case hg => rfl); (case hr => first | (go_simp; done) | (go_simp; rfl)); intro gb243 hg w8 hbox hb; have n0_ := Aside0.mk (below_step (by repeat (first | (with_reducible first | exact HB.out | apply below_alloc | apply pw_below_drewN | apply below_drew1) | exact HB.out)) hb); have n1_ := Aside0.mk (hbox); have n2_ := Aside0.mk ((by rw [hg]; exact (below_size (by repeat (first | (with_reducible first | exact HB.out | apply below_alloc | apply pw_below_drewN | apply below_drew1) | exact HB.out))) : w.heap.size ≤ gb243)); have n3_ := Aside0.mk ((by rw [hg]; exact (below_size (by repeat (first | (with_reducible first | exact HB.out | apply below_alloc | apply pw_below_drewN | apply below_drew1) | exact HB.out))) : w.heap.size ≤ gb243)); clear HB; have HB := n0_; have BK243 := n1_; have GW243 := n2_; have GE243 := n3_; clear n0_ n1_ n2_ n3_; clear hb hbox hg; have hcz9_0 : w8.cell? ⟨gb243, 0, none⟩ = some (.slice A0_0 l0_0.length c0_0) := (blk_cell BK243.out 0).trans rfl; have hcz9_1 : w8.cell? ⟨gb243, 1, none⟩ = some (.int .i64 a0_1) := (blk_cell BK243.out 1).trans rfl; have hcz9_2 : w8.cell? ⟨gb243, 2, none⟩ = some (.slice A0_2 l0_2.length c0_2) := (blk_cell BK243.out 2).trans rfl; have hcz9_3 : w8.cell? ⟨gb243, 3, none⟩ = some (.slice A0_3 l0_3.length c0_3) := (blk_cell BK243.out 3).trans rfl; have hfz9_0 := blk_frozen BK243.out 0; have hfz9_1 := blk_frozen BK243.out 1; have hfz9_2 := blk_frozen BK243.out 2; have hfz9_3 := blk_frozen BK243.out 3; have q10 : ((ji4) : Int) ≤ ((l0_0.length : Int) : Int) := of_decide_eq_true (by first | (with_reducible assumption) | assumption); obtain ⟨i010, hi010, _, hsz10, _⟩ := info_parts info114; have hroom10 : l0_0.length ≤ c0_0 := HC0_0.out; have hC10 : Kd.C k114 _ A0_0 l0_0.length l0_0 := HR0_0.out; have hcut10 := cut_to (P := Try.prog) 33 114 .i64 Try.underlying33 hi010 A0_0 l0_0.length c0_0 (ji4) (of_decide_eq_true (by first | (with_reducible assumption) | assumption)) q10 hroom10; have hr10 := Kd.C_take (m := ((ji4) : Int).toNat) hC10 (by omega); have hy10 : y244.length = ((ji4) : Int).toNat := (by rw [Ny244.out, List.length_take]; omega); rw [← Ny244.out] at hr10; rw [← hy10] at hcut10; have HR247 := Aside0.mk hr10; have HC247 := Aside0.mk (show y244.length ≤ c0_0 from by omega); clear hr10 hC10 hroom10 hi010 hsz10; have KY10 := Aside0.mk hy10; clear hy10; replace q10 := eq_true q10) | ((with_reducible refine gate_callee (f := 113) rfl ?_); refine goesL_ (some 14) rfl rfl Try.func113 (by kernel_rfl) rfl #[.slice A0_0 y244.length c0_0] rfl (by (try simp only [List.map_toArray, List.map_cons, List.map_nil]); first | done | rfl | (simp only [List.length_drop, List.length_take]; rfl)) ?_; (with_reducible refine (impl_copyLog.calls _ _ y244 t248 _ ?side1 ?side2 A7.out).mono ?_); (case side1 => repeat (first | exact (Kd.C_below HR247.out HB.out) | (with_reducible refine Kd.C_alloc ?_ _) | (with_reducible refine Kd.C_drewN ?_ _) | (with_reducible refine Kd.C_drew ?_))); (case side2 => exact HC247.out); rintro e w11 ⟨v249, rfl, ho0, hb⟩; refine ⟨_, rfl, ?_⟩; have n0_ := Aside0.mk (Kd.R_lower ho0 (below_size (by repeat (first | (with_reducible first | exact HB.out | apply below_alloc | apply pw_below_drewN | apply below_drew1 | refine below_set ?_ GE243.out) | exact HB.out)))); have n1_ := Aside0.mk (blk_below (g := gb243) (o := .cells #[.slice A0_0 l0_0.length c0_0, .int .i64 a0_1, .slice A0_2 l0_2.length c0_2, .slice A0_3 l0_3.length c0_3] 62 (0, 0)) (by (with_reducible repeat (first | refine blk_drewN ?_ _ | refine blk_drew ?_ | refine blk_alloc ?_ _)); exact BK243.out) hb); have n2_ := Aside0.mk (below_step (by repeat (first | (with_reducible first | exact HB.out | apply below_alloc | apply pw_below_drewN | apply below_drew1 | refine below_set ?_ GE243.out) | exact HB.out)) hb); clear BK243; clear HB; have HO250 := n0_; have BK243 := n1_; have HB := n2_; clear n0_ n1_ n2_; (try clear hb); (try clear hb2); (try clear hk); (try clear hi); (try clear ho0)))
      go_ret
      exact ⟨_, by first | rfl | (simp [errW_none, errW_some] <;> rfl) | (simp only [← hji3, ← hji4]; first | rfl | (simp [errW_none, errW_some] <;> rfl)) | (simp [*, errW_none, errW_some] <;> rfl), by (with_reducible repeat (first | apply Kd.R_alloc | apply Kd.R_drewN | apply Kd.R_drew)); exact HO250.out, by repeat (first | (with_reducible first | exact HB.out | apply below_alloc | apply pw_below_drewN | apply below_drew1 | refine below_set ?_ GE243.out) | exact HB.out)⟩
    · rw [if_neg c6] at H
      exact absurd H (by simp)
  · rw [if_neg c5] at H
    exact absurd H (by simp)

end Go.Proofs.Ytkmndimmglghoaa.PFnExactFetchLog
