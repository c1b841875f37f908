-- Made by a program of this session, after the kit's print of the translation. Lean checks it.
import Derived.Test.YtkmndimmglghoaaPFnExactFetchBundlex0
import Derived.Test.YtkmndimmglghoaaPFnExactFetchBundlex2
import Derived.Test.YtkmndimmglghoaaPFnExactFetchBundlex5
namespace Go.Proofs.Ytkmndimmglghoaa.PFnExactFetchBundle
open Go.RowKit Go.Proofs.YtkmndimmglghoaaW.PrintWords Go.Proofs.YtkmndimmglghoaaW.PrintLast Go.Proofs.YtkmndimmglghoaaW.PrintMore
attribute [local go_sem] max2_int min2_int max_two min_two max_three min_three max_four min_four   -- for this text's walks alone
set_option linter.unusedVariables false
set_option linter.unusedSimpArgs false

/-! ### laws_markEpochBoxes: function 61 (by a program of this session: it hands its rows over one by one) -/
def laws_markEpochBoxes.f (k : Nat) (a0_0 : Int) (l0_1 : List (S161)) (a1 : Int) : Option (Int × (List (S161))) := (laws_markBoxS.f k l0_1 a1).bind fun p0_ => some (p0_.1, p0_.2)
theorem laws_markEpochBoxes.mono : ∀ a0 a1 a2 k, LeO (laws_markEpochBoxes.f k a0 a1 a2) (laws_markEpochBoxes.f (k + 1) a0 a1 a2) := by
  intro a0 a1 a2 k
  unfold laws_markEpochBoxes.f
  exact LeO.bind (laws_markBoxS.mono _ _ _) (fun _ => LeO.refl _)
set_option maxHeartbeats 8000000 in
set_option maxRecDepth 100000 in
theorem laws_markEpochBoxes.calls (k : Nat) (a0_0 : Int) (P0_1_ : Nat → Prop) (u9000_ : Value) (l0_1 : List (S161)) (a1 : Int) (r1 : Int) (r2 : List (S161)) (w0 w : World) (hB : Below w0.heap.size w0 w) (ho0_1 : Kd.S k161 161 w w0.heap.size P0_1_ u9000_ l0_1) (h : laws_markEpochBoxes.f k a0_0 l0_1 a1 = some (r1, r2)) :
    Calls Try.prog 61 #[.agg #[.int .i64 a0_0, u9000_], .int .i64 a1] w fun e w' => e = .returned (.int .i64 r1) ∧ Kd.S k161 161 w' w0.heap.size (fun k_ => P0_1_ k_) u9000_ r2 ∧ Below w0.heap.size w0 w' ∧ Kept w w' (fun k_ => P0_1_ k_) := by
  have hu49 := Try.underlying49
  have HB := Aside0.mk hB
  have HK := Aside0.mk (Kept.refl w (fun k_ => P0_1_ k_))
  obtain ⟨okq0_1, hoo, hii⟩ := lk_Si ho0_1
  obtain ⟨Aq0_1, cq0_1, rfl⟩ := Kd.S_slice hoo
  have HOq0_1 := Aside0.mk hoo
  have HIq0_1 := Aside0.mk hii
  clear hoo hii ho0_1
  clear hB
  unfold laws_markEpochBoxes.f at h
  obtain ⟨⟨m0_, y0_⟩, C0, h⟩ := Option.bind_eq_some_iff.mp h
  have A0q := Aside0.mk C0
  clear C0
  simp only [Option.some.injEq, Prod.mk.injEq] at h
  obtain ⟨rfl, rfl⟩ := h
  go_enter Try.func61, Try.ntmps61
  go_wp2_with (first | ((with_reducible refine gate_dst (N := 2) rfl ?_); refine box_event ?hg (N := 2) ?hd (cs := #[.int .i64 a0_0, .slice Aq0_1 l0_1.length cq0_1]) (t := 49) ?hr ?_; (case hd => rfl); (case hg => rfl); (case hr => first | (go_simp; done) | (go_simp; rfl)); intro gb7001 hg wv1 hbox hb; have n0_ := Aside0.mk (Kd.S_kept HOq0_1.out (Kept.below (show Kept w w (fun k_ => False) from by repeat (first | (with_reducible first | exact Kept.refl _ _ | apply Kept.alloc | apply Kept.drewN | apply Kept.drew) | exact Kept.refl _ _)) hb) (fun _ _ hs_ => hs_.elim)); have n1_ := Aside0.mk (below_step (by repeat (first | (with_reducible first | exact HB.out | apply below_alloc | apply pw_below_drewN | apply below_drew1) | exact HB.out)) hb); have n2_ := Aside0.mk (Kept.then_ HK.out (Kept.below (show Kept w w (fun k_ => False) from by repeat (first | (with_reducible first | exact Kept.refl _ _ | apply Kept.alloc | apply Kept.drewN | apply Kept.drew) | exact Kept.refl _ _)) hb) (fun k_ hs_ => .inr (hs_.elim))); have n3_ := Aside0.mk (hbox); have n4_ := Aside0.mk ((by rw [hg]; exact Nat.le_trans HB.out.size ((show Kept w w (fun k_ => False) from by repeat (first | (with_reducible first | exact Kept.refl _ _ | apply Kept.alloc | apply Kept.drewN | apply Kept.drew) | exact Kept.refl _ _))).1 : w0.heap.size ≤ gb7001)); have n5_ := Aside0.mk ((⟨by rw [hg]; exact ((show Kept w w (fun k_ => False) from by repeat (first | (with_reducible first | exact Kept.refl _ _ | apply Kept.alloc | apply Kept.drewN | apply Kept.drew) | exact Kept.refl _ _))).1, blk_lt hbox⟩ : w.heap.size ≤ gb7001 ∧ gb7001 < wv1.heap.size)); have n6_ := Aside0.mk (((Kept.below (show Kept w w (fun k_ => False) from by repeat (first | (with_reducible first | exact Kept.refl _ _ | apply Kept.alloc | apply Kept.drewN | apply Kept.drew) | exact Kept.refl _ _)) hb).1 : w.heap.size ≤ wv1.heap.size)); clear HOq0_1; clear HB; clear HK; have HOq0_1 := n0_; have HB := n1_; have HK := n2_; have BK7001 := n3_; have GE7001 := n4_; have HG7001 := n5_; have HL1 := n6_; clear n0_ n1_ n2_ n3_ n4_ n5_ n6_; clear hb hbox hg; have hcz1_0 : wv1.cell? ⟨gb7001, 0, none⟩ = some (.int .i64 a0_0) := (blk_cell BK7001.out 0).trans rfl; have hcz1_f0 := blk_frozen BK7001.out 0; have hcz1_1 : wv1.cell? ⟨gb7001, 1, none⟩ = some (.slice Aq0_1 l0_1.length cq0_1) := (blk_cell BK7001.out 1).trans rfl; have hcz1_f1 := blk_frozen BK7001.out 1) | ((with_reducible refine gate_callee (f := 129) rfl ?_); refine goesL_ (some 8) rfl rfl Try.func129 (by kernel_rfl) rfl #[.slice Aq0_1 l0_1.length cq0_1, .int .i64 a1] rfl (by (try simp only [List.map_toArray, List.map_cons, List.map_nil]); first | done | rfl | (simp only [List.length_drop, List.length_take]; rfl)) ?_; (with_reducible refine (laws_markBoxS.calls k (fun k_ => okq0_1 k_) (.slice Aq0_1 l0_1.length cq0_1) l0_1 a1 m0_ y0_ w0 _ ?side1 ?side2 A0q.out).mono ?_); (case side1 => repeat (first | (with_reducible first | exact HB.out | apply below_alloc | apply pw_below_drewN | apply below_drew1) | exact HB.out)); (case side2 => exact (Kd.S_kept HOq0_1.out (show Kept wv1 wv1 (fun k_ => False) from by repeat (first | (with_reducible first | exact Kept.refl _ _ | apply Kept.alloc | apply Kept.drewN | apply Kept.drew) | exact Kept.refl _ _)) (fun _ _ hs_ => hs_.elim))); rintro e wv2 ⟨rfl, hy0, hb, hkp⟩; refine ⟨_, rfl, ?_⟩; have hkW := (show Kept wv1 wv1 (fun k_ => False) from by repeat (first | (with_reducible first | exact Kept.refl _ _ | apply Kept.alloc | apply Kept.drewN | apply Kept.drew) | exact Kept.refl _ _)); have n0_ := Aside0.mk (hy0); have n1_ := Aside0.mk (blk_kept (blk_kept BK7001.out (show Kept wv1 wv1 (fun k_ => False) from by repeat (first | (with_reducible first | exact Kept.refl _ _ | apply Kept.alloc | apply Kept.drewN | apply Kept.drew) | exact Kept.refl _ _)) (fun hs_ => hs_.elim)) hkp (fun hs_ => (have i_ := HG7001.out; (have j_ := HIq0_1.out _ hs_; by have z0_ := HL1.out; omega)))); have n2_ := Aside0.mk (Kept.then_ (Kept.then_ HK.out hkW (fun k_ hs_ => .inr (hs_.elim))) hkp (fun k_ hs_ => .inl ((HIq0_1.out k_ hs_).2))); have n3_ := Aside0.mk (hb); have n4_ := Aside0.mk ((Nat.le_trans hkW.1 hkp.1 : wv1.heap.size ≤ wv2.heap.size)); clear HOq0_1; clear BK7001; clear HK; clear HB; have HOq0_1 := n0_; have BK7001 := n1_; have HK := n2_; have HB := n3_; have HL2 := n4_; clear n0_ n1_ n2_ n3_ n4_; (try clear hb); (try clear hkW); (try clear hk2); (try clear hkp); (try clear hy0); have hcz2_0 : wv2.cell? ⟨gb7001, 0, none⟩ = some (.int .i64 a0_0) := (blk_cell BK7001.out 0).trans rfl; have hcz2_f0 := blk_frozen BK7001.out 0; have hcz2_1 : wv2.cell? ⟨gb7001, 1, none⟩ = some (.slice Aq0_1 l0_1.length cq0_1) := (blk_cell BK7001.out 1).trans rfl; have hcz2_f1 := blk_frozen BK7001.out 1))
  go_ret
  exact ⟨rfl, Kd.S_mono (Kd.S_kept HOq0_1.out (show Kept wv2 wv2 (fun k_ => False) from by repeat (first | (with_reducible first | exact Kept.refl _ _ | apply Kept.alloc | apply Kept.drewN | apply Kept.drew) | exact Kept.refl _ _)) (fun _ _ hs_ => hs_.elim)) (fun k_ hk_ => (HIq0_1.out k_ hk_).2), by repeat (first | (with_reducible first | exact HB.out | apply below_alloc | apply pw_below_drewN | apply below_drew1) | exact HB.out), Kept.then_ HK.out (show Kept wv2 wv2 (fun k_ => False) from by repeat (first | (with_reducible first | exact Kept.refl _ _ | apply Kept.alloc | apply Kept.drewN | apply Kept.drew) | exact Kept.refl _ _)) (fun k_ hs_ => .inr (hs_.elim))⟩

/-! ### laws_markSealedBundleS: function 107 (by a program of this session: rows inside elements) -/
def laws_markSealedBundleS.go (k : Nat) : List S71 → Int → Option (Int × List S71)
  | [], v => some (v, [])
  | x :: l, v => (laws_markByteS.f k x.f2 (wrap64 ((wrap64 (v + 1)) + 1))).bind fun p => (laws_markSealedBundleS.go k l (wrap64 (p.1 + 1))).bind fun q => some (q.1, (⟨v, wrap64 (v + 1), p.2, p.1⟩ : S71) :: q.2)
def laws_markSealedBundleS.f (k : Nat) (l0 : List S71) (a1 : Int) : Option (Int × List S71) := if l0.length ≤ 9223372036854775806 then laws_markSealedBundleS.go k l0 a1 else none
theorem laws_markSealedBundleS.go_mono (k : Nat) : ∀ (l : List S71) (v : Int), LeO (laws_markSealedBundleS.go k l v) (laws_markSealedBundleS.go (k + 1) l v)
  | [], _ => LeO.refl _
  | x :: l, v => by
    unfold laws_markSealedBundleS.go
    exact LeO.bind (laws_markByteS.mono _ _ _) (fun p => LeO.bind (laws_markSealedBundleS.go_mono k l _) (fun _ => LeO.refl _))
theorem laws_markSealedBundleS.mono : ∀ a0 a1 k, LeO (laws_markSealedBundleS.f k a0 a1) (laws_markSealedBundleS.f (k + 1) a0 a1) := by
  intro a0 a1 k
  unfold laws_markSealedBundleS.f
  exact LeO.ite (laws_markSealedBundleS.go_mono k _ _) (LeO.refl _)
set_option maxHeartbeats 8000000 in
set_option maxRecDepth 100000 in
theorem laws_markSealedBundleS.calls (k : Nat) (P0_ : Nat → Prop) (u9000_ : Value) (l0 : List (S71)) (a1 : Int) (r1 : Int) (r2 : List (S71)) (w0 w : World) (hB : Below w0.heap.size w0 w) (ho0 : Kd.S k71 71 w w0.heap.size P0_ u9000_ l0) (h : laws_markSealedBundleS.f k l0 a1 = some (r1, r2)) :
    Calls Try.prog 107 #[u9000_, .int .i64 a1] w fun e w' => e = .returned (.int .i64 r1) ∧ Kd.S k71 71 w' w0.heap.size (fun k_ => P0_ k_) u9000_ r2 ∧ Below w0.heap.size w0 w' ∧ Kept w w' (fun k_ => P0_ k_) := by
  have HO0 := Aside0.mk ho0
  have HK := Aside0.mk (Kept.refl w (fun k_ => P0_ k_))
  have HB := Aside0.mk hB
  clear hB ho0
  obtain ⟨hl, H⟩ : l0.length ≤ 9223372036854775806 ∧ laws_markSealedBundleS.go k l0 a1 = some (r1, r2) := by
    unfold laws_markSealedBundleS.f at h
    split at h
    · exact ⟨by assumption, h⟩
    · cases h
  clear h
  have HL := Aside0.mk hl
  have HA := Aside0.mk (show ∃ post, laws_markSealedBundleS.go k (l0.drop (0 : Int).toNat) a1 = some (r1, post) ∧ r2 = [] ++ post from ⟨r2, H, rfl⟩)
  clear hl H
  obtain ⟨A0, c0, eu⟩ := Kd.S_slice HO0.out
  subst eu
  go_enter Try.func107, Try.ntmps107
  go_wp2
  go_loopg [1, 5] (l0.length + 1) (fun kq v1 v5 w' => ∃ (pre : List S71) (xv xi : Int), v1 = .int .i64 xv ∧ v5 = .int .i64 xi ∧ Aside0 ((kq : Int) + xi = (l0.length : Int) + 1 ∧ xi ≤ (l0.length : Int) ∧ 0 ≤ xi ∧ pre.length = xi.toNat) ∧ Aside0 (∃ post, laws_markSealedBundleS.go k (l0.drop xi.toNat) xv = some (r1, post) ∧ r2 = pre ++ post) ∧ Aside0 (Kd.S k71 71 w' w0.heap.size P0_ (.slice A0 l0.length c0) (pre ++ l0.drop xi.toNat)) ∧ Aside0 (Kept w w' (fun k_ => P0_ k_)) ∧ Aside0 (Below w0.heap.size w0 w'))
  case atStart => exact ⟨[], a1, 0, rfl, rfl, ⟨by omega, by omega, by omega, rfl⟩, HA, ⟨by (with_reducible repeat (first | apply Kd.S_alloc | apply Kd.S_drewN | apply Kd.S_drew)); exact HO0.out⟩, ⟨by repeat (first | (with_reducible first | exact HK.out | apply Kept.alloc | apply Kept.drewN | apply Kept.drew) | exact HK.out)⟩, ⟨by repeat (first | (with_reducible first | exact HB.out | apply below_alloc | apply pw_below_drewN | apply below_drew1) | exact HB.out)⟩⟩
  case round =>
    clear HA HO0 HK HB
    obtain ⟨pre, xv, xi, rfl, rfl, HN, HA, HO, HK, HB⟩ := hrel
    have hi0 := HN.out.2.2.1
    by_cases hi : xi < (l0.length : Int)
    · cases gk with
      | zero => exact absurd HN.out.1 (by simp; omega)
      | succ k1 =>
        have hdec : decide (xi < (l0.length : Int)) = true := decide_eq_true hi
        have hil : xi.toNat < l0.length := by omega
        obtain ⟨x, hx⟩ : ∃ x, l0.drop xi.toNat = x :: l0.drop (xi.toNat + 1) := ⟨_, List.drop_eq_getElem_cons hil⟩
        have HO1 := HO.out
        rw [hx] at HO1
        obtain ⟨post, H, hr⟩ := HA.out
        rw [hx] at H
        unfold laws_markSealedBundleS.go at H
        obtain ⟨⟨m_, rl_⟩, C1, H⟩ := Option.bind_eq_some_iff.mp H
        obtain ⟨⟨rq_, post2⟩, C2, H⟩ := Option.bind_eq_some_iff.mp H
        obtain ⟨rfl, rfl⟩ := Prod.mk.inj (Option.some.inj H)
        have HC := Aside0.mk C1
        have HD := Aside0.mk C2
        have HE := Aside0.mk hr
        clear C1 C2 H HA HO hr
        obtain ⟨go_, eA, hgb, hgo, hin, oki, ce_, hM, hoki, hH⟩ := nk_elem HO1 HN.out.2.2.2 hi0 z71
        subst eA
        obtain ⟨vr_, rfl, hr_⟩ := k71_openM hM
        obtain ⟨Ar, cr, rfl⟩ := Kd.R_slice hr_
        have HH := Aside0.mk hH
        have HR := Aside0.mk hr_
        have HKI := Aside0.mk hoki
        have HGB := Aside0.mk hgb
        have HGO := Aside0.mk hgo
        have HP := Aside0.mk (show 0 ≤ xi ∧ xi < ((l0.length : Nat) : Int) from ⟨hi0, hi⟩)
        have HXD := Aside0.mk hx
        clear HO1 hM hH hr_ hoki hgb hgo hin hx
        have hz_ := Kd.H_at HH.out HP.out.1 HP.out.2
        have hx0 : wr.cell? ⟨go_, xi.toNat * 4, none⟩ = some (.int .i64 x.f0) := hz_.1 0 _ rfl
        have hf0 : wr.frozen? ⟨go_, xi.toNat * 4, none⟩ = false := hz_.2 0
        have hx1 : wr.cell? ⟨go_, xi.toNat * 4 + 1, none⟩ = some (.int .i64 x.f1) := hz_.1 1 _ rfl
        have hf1 : wr.frozen? ⟨go_, xi.toNat * 4 + 1, none⟩ = false := hz_.2 1
        have hx2 : wr.cell? ⟨go_, xi.toNat * 4 + 2, none⟩ = some (.slice Ar x.f2.length cr) := hz_.1 2 _ rfl
        have hf2 : wr.frozen? ⟨go_, xi.toNat * 4 + 2, none⟩ = false := hz_.2 2
        have hx3 : wr.cell? ⟨go_, xi.toNat * 4 + 3, none⟩ = some (.int .i64 x.f3) := hz_.1 3 _ rfl
        have hf3 : wr.frozen? ⟨go_, xi.toNat * 4 + 3, none⟩ = false := hz_.2 3
        clear hz_
        have hp1 : (0 ≤ xi) = True := eq_true hi0
        have hp2 : (xi < (l0.length : Int)) = True := eq_true hi
        clear hi hi0 hil
        go_wp2_with (first | ((with_reducible refine gate_store (t := 3) (p := 16) rfl ?_); refine store_event (t := 3) (p := 16) (v := ?vo_wv1) (w1 := (wr.setCell ⟨go_, xi.toNat * 4, none⟩ (.int .i64 (xv)))) ?hg ?ho ?hn ?hr ?_; (case ho => rfl); (case hg => rfl); (case hn => rfl); (case hr => first | (go_simp; done) | (go_simp; rfl)); intro wv1 hw; have n0_ := Aside0.mk (by rw [hw]; exact nk_set HH.out HP.out.1 HP.out.2 0 _ rfl (by decide) rfl _ rfl : Kd.H k71 71 wv1 w0.heap.size P0_ (.slice (some ⟨go_, 0, none⟩) l0.length c0) (pre ++ x :: l0.drop (xi.toNat + 1)) xi oki [.int .i64 (xv), .int .i64 x.f1, .slice Ar x.f2.length cr, .int .i64 x.f3]); have n1_ := Aside0.mk (by rw [hw]; exact below_set HB.out HGB.out : Below w0.heap.size w0 wv1); have n2_ := Aside0.mk (by rw [hw]; exact Kept.setCell HK.out (.inl HGO.out) _ : Kept w wv1 (fun k_ => P0_ k_)); have n3_ := Aside0.mk (by rw [hw]; exact Kd.R_far (p := ⟨go_, xi.toNat * 4, none⟩) HR.out (fun k_ hk_ => (HKI.out k_ hk_).2) _ : Kd.R (Kd.int .u8) 5 wv1 w0.heap.size oki (.slice Ar x.f2.length cr) x.f2); clear hw HH HB HK HR hx0 hf0 hx1 hf1 hx2 hf2 hx3 hf3; have HH := n0_; have HB := n1_; have HK := n2_; have HR := n3_; clear n0_ n1_ n2_ n3_; have hz_ := Kd.H_at HH.out HP.out.1 HP.out.2; have hx0 : wv1.cell? ⟨go_, xi.toNat * 4, none⟩ = some (.int .i64 (xv)) := hz_.1 0 _ rfl; have hf0 : wv1.frozen? ⟨go_, xi.toNat * 4, none⟩ = false := hz_.2 0; have hx1 : wv1.cell? ⟨go_, xi.toNat * 4 + 1, none⟩ = some (.int .i64 x.f1) := hz_.1 1 _ rfl; have hf1 : wv1.frozen? ⟨go_, xi.toNat * 4 + 1, none⟩ = false := hz_.2 1; have hx2 : wv1.cell? ⟨go_, xi.toNat * 4 + 2, none⟩ = some (.slice Ar x.f2.length cr) := hz_.1 2 _ rfl; have hf2 : wv1.frozen? ⟨go_, xi.toNat * 4 + 2, none⟩ = false := hz_.2 2; have hx3 : wv1.cell? ⟨go_, xi.toNat * 4 + 3, none⟩ = some (.int .i64 x.f3) := hz_.1 3 _ rfl; have hf3 : wv1.frozen? ⟨go_, xi.toNat * 4 + 3, none⟩ = false := hz_.2 3; clear hz_) | ((with_reducible refine gate_store (t := 3) (p := 23) rfl ?_); refine store_event (t := 3) (p := 23) (v := ?vo_wv2) (w1 := (wv1.setCell ⟨go_, xi.toNat * 4 + 1, none⟩ (.int .i64 (wrap64 (xv + 1))))) ?hg ?ho ?hn ?hr ?_; (case ho => rfl); (case hg => rfl); (case hn => rfl); (case hr => first | (go_simp; done) | (go_simp; rfl)); intro wv2 hw; have n0_ := Aside0.mk (by rw [hw]; exact nk_set HH.out HP.out.1 HP.out.2 1 _ rfl (by decide) rfl _ rfl : Kd.H k71 71 wv2 w0.heap.size P0_ (.slice (some ⟨go_, 0, none⟩) l0.length c0) (pre ++ x :: l0.drop (xi.toNat + 1)) xi oki [.int .i64 (xv), .int .i64 (wrap64 (xv + 1)), .slice Ar x.f2.length cr, .int .i64 x.f3]); have n1_ := Aside0.mk (by rw [hw]; exact below_set HB.out HGB.out : Below w0.heap.size w0 wv2); have n2_ := Aside0.mk (by rw [hw]; exact Kept.setCell HK.out (.inl HGO.out) _ : Kept w wv2 (fun k_ => P0_ k_)); have n3_ := Aside0.mk (by rw [hw]; exact Kd.R_far (p := ⟨go_, xi.toNat * 4 + 1, none⟩) HR.out (fun k_ hk_ => (HKI.out k_ hk_).2) _ : Kd.R (Kd.int .u8) 5 wv2 w0.heap.size oki (.slice Ar x.f2.length cr) x.f2); clear hw HH HB HK HR hx0 hf0 hx1 hf1 hx2 hf2 hx3 hf3; have HH := n0_; have HB := n1_; have HK := n2_; have HR := n3_; clear n0_ n1_ n2_ n3_; have hz_ := Kd.H_at HH.out HP.out.1 HP.out.2; have hx0 : wv2.cell? ⟨go_, xi.toNat * 4, none⟩ = some (.int .i64 (xv)) := hz_.1 0 _ rfl; have hf0 : wv2.frozen? ⟨go_, xi.toNat * 4, none⟩ = false := hz_.2 0; have hx1 : wv2.cell? ⟨go_, xi.toNat * 4 + 1, none⟩ = some (.int .i64 (wrap64 (xv + 1))) := hz_.1 1 _ rfl; have hf1 : wv2.frozen? ⟨go_, xi.toNat * 4 + 1, none⟩ = false := hz_.2 1; have hx2 : wv2.cell? ⟨go_, xi.toNat * 4 + 2, none⟩ = some (.slice Ar x.f2.length cr) := hz_.1 2 _ rfl; have hf2 : wv2.frozen? ⟨go_, xi.toNat * 4 + 2, none⟩ = false := hz_.2 2; have hx3 : wv2.cell? ⟨go_, xi.toNat * 4 + 3, none⟩ = some (.int .i64 x.f3) := hz_.1 3 _ rfl; have hf3 : wv2.frozen? ⟨go_, xi.toNat * 4 + 3, none⟩ = false := hz_.2 3; clear hz_) | ((with_reducible refine gate_callee (f := 108) rfl ?_); refine goesL_ (some 32) rfl rfl Try.func108 (by kernel_rfl) rfl #[.slice Ar x.f2.length cr, .int .i64 (wrap64 ((wrap64 (xv + 1)) + 1))] rfl (by (try simp only [List.map_toArray, List.map_cons, List.map_nil]); first | done | rfl) ?_; (with_reducible refine (laws_markByteS.calls k (fun k_ => some k_ = ((.slice Ar x.f2.length cr) : Value).ownBlock ∧ oki k_) (.slice Ar x.f2.length cr) x.f2 (wrap64 ((wrap64 (xv + 1)) + 1)) m_ rl_ w0 _ ?side1 ?side2 HC.out).mono ?_); (case side1 => repeat (first | (with_reducible first | exact HB.out | apply below_alloc | apply pw_below_drewN | apply below_drew1) | exact HB.out)); (case side2 => exact Kd.R_tight2 rfl (by (with_reducible repeat (first | apply Kd.R_alloc | apply Kd.R_drewN | apply Kd.R_drew)); exact HR.out)); rintro e wv3 ⟨rfl, hy0, hb, hkp⟩; refine ⟨_, rfl, ?_⟩; have n0_ := Aside0.mk (Kd.H_kept (by (with_reducible repeat (first | apply Kd.H_alloc | apply Kd.H_drewN | apply Kd.H_drew)); exact HH.out) hkp (fun _ _ hn_ hs_ => hn_ hs_.2) : Kd.H k71 71 wv3 w0.heap.size P0_ (.slice (some ⟨go_, 0, none⟩) l0.length c0) (pre ++ x :: l0.drop (xi.toNat + 1)) xi oki [.int .i64 (xv), .int .i64 (wrap64 (xv + 1)), .slice Ar x.f2.length cr, .int .i64 x.f3]); have n1_ := Aside0.mk (hb : Below w0.heap.size w0 wv3); have n2_ := Aside0.mk (Kept.then_ (by repeat (first | (with_reducible first | exact HK.out | apply Kept.alloc | apply Kept.drewN | apply Kept.drew) | exact HK.out)) hkp (fun k_ hs_ => .inl (HKI.out k_ hs_.2).1) : Kept w wv3 (fun k_ => P0_ k_)); have n3_ := Aside0.mk (Kd.R_reok rfl hy0 (fun k_ e_ => HR.out.1 k_ e_) : Kd.R (Kd.int .u8) 5 wv3 w0.heap.size oki (.slice Ar x.f2.length cr) rl_); clear HH HB HK HR hy0 hb hkp hx0 hf0 hx1 hf1 hx2 hf2 hx3 hf3; have HH := n0_; have HB := n1_; have HK := n2_; have HR := n3_; clear n0_ n1_ n2_ n3_; have hz_ := Kd.H_at HH.out HP.out.1 HP.out.2; have hx0 : wv3.cell? ⟨go_, xi.toNat * 4, none⟩ = some (.int .i64 (xv)) := hz_.1 0 _ rfl; have hf0 : wv3.frozen? ⟨go_, xi.toNat * 4, none⟩ = false := hz_.2 0; have hx1 : wv3.cell? ⟨go_, xi.toNat * 4 + 1, none⟩ = some (.int .i64 (wrap64 (xv + 1))) := hz_.1 1 _ rfl; have hf1 : wv3.frozen? ⟨go_, xi.toNat * 4 + 1, none⟩ = false := hz_.2 1; have hx2 : wv3.cell? ⟨go_, xi.toNat * 4 + 2, none⟩ = some (.slice Ar x.f2.length cr) := hz_.1 2 _ rfl; have hf2 : wv3.frozen? ⟨go_, xi.toNat * 4 + 2, none⟩ = false := hz_.2 2; have hx3 : wv3.cell? ⟨go_, xi.toNat * 4 + 3, none⟩ = some (.int .i64 x.f3) := hz_.1 3 _ rfl; have hf3 : wv3.frozen? ⟨go_, xi.toNat * 4 + 3, none⟩ = false := hz_.2 3; clear hz_) | ((with_reducible refine gate_store (t := 3) (p := 37) rfl ?_); refine store_event (t := 3) (p := 37) (v := ?vo_wv4) (w1 := (wv3.setCell ⟨go_, xi.toNat * 4 + 3, none⟩ (.int .i64 (m_)))) ?hg ?ho ?hn ?hr ?_; (case ho => rfl); (case hg => rfl); (case hn => rfl); (case hr => first | (go_simp; done) | (go_simp; rfl)); intro wv4 hw; have n0_ := Aside0.mk (by rw [hw]; exact nk_set HH.out HP.out.1 HP.out.2 3 _ rfl (by decide) rfl _ rfl : Kd.H k71 71 wv4 w0.heap.size P0_ (.slice (some ⟨go_, 0, none⟩) l0.length c0) (pre ++ x :: l0.drop (xi.toNat + 1)) xi oki [.int .i64 (xv), .int .i64 (wrap64 (xv + 1)), .slice Ar x.f2.length cr, .int .i64 (m_)]); have n1_ := Aside0.mk (by rw [hw]; exact below_set HB.out HGB.out : Below w0.heap.size w0 wv4); have n2_ := Aside0.mk (by rw [hw]; exact Kept.setCell HK.out (.inl HGO.out) _ : Kept w wv4 (fun k_ => P0_ k_)); have n3_ := Aside0.mk (by rw [hw]; exact Kd.R_far (p := ⟨go_, xi.toNat * 4 + 3, none⟩) HR.out (fun k_ hk_ => (HKI.out k_ hk_).2) _ : Kd.R (Kd.int .u8) 5 wv4 w0.heap.size oki (.slice Ar x.f2.length cr) rl_); clear hw HH HB HK HR hx0 hf0 hx1 hf1 hx2 hf2 hx3 hf3; have HH := n0_; have HB := n1_; have HK := n2_; have HR := n3_; clear n0_ n1_ n2_ n3_; have hz_ := Kd.H_at HH.out HP.out.1 HP.out.2; have hx0 : wv4.cell? ⟨go_, xi.toNat * 4, none⟩ = some (.int .i64 (xv)) := hz_.1 0 _ rfl; have hf0 : wv4.frozen? ⟨go_, xi.toNat * 4, none⟩ = false := hz_.2 0; have hx1 : wv4.cell? ⟨go_, xi.toNat * 4 + 1, none⟩ = some (.int .i64 (wrap64 (xv + 1))) := hz_.1 1 _ rfl; have hf1 : wv4.frozen? ⟨go_, xi.toNat * 4 + 1, none⟩ = false := hz_.2 1; have hx2 : wv4.cell? ⟨go_, xi.toNat * 4 + 2, none⟩ = some (.slice Ar x.f2.length cr) := hz_.1 2 _ rfl; have hf2 : wv4.frozen? ⟨go_, xi.toNat * 4 + 2, none⟩ = false := hz_.2 2; have hx3 : wv4.cell? ⟨go_, xi.toNat * 4 + 3, none⟩ = some (.int .i64 (m_)) := hz_.1 3 _ rfl; have hf3 : wv4.frozen? ⟨go_, xi.toNat * 4 + 3, none⟩ = false := hz_.2 3; clear hz_))
        go_roundg k1
        case measure => omega
        case rel =>
          have hn1 : (xi + 1).toNat = xi.toNat + 1 := by have := HP.out.1; omega
          refine ⟨pre ++ [(⟨xv, wrap64 (xv + 1), rl_, m_⟩ : S71)], wrap64 (m_ + 1), xi + 1, rfl, (by congr 1; (unfold wrap64; have := HN.out; have := HL.out; omega)), ⟨by have := HN.out; have := HP.out; refine ⟨?_, ?_, ?_, ?_⟩ <;> (try simp only [List.length_append, List.length_cons, List.length_nil]) <;> omega⟩, ⟨post2, by rw [hn1]; exact HD.out, by rw [HE.out, List.append_assoc]; rfl⟩, ⟨?_⟩, ⟨by repeat (first | (with_reducible first | exact HK.out | apply Kept.alloc | apply Kept.drewN | apply Kept.drew) | exact HK.out)⟩, ⟨by repeat (first | (with_reducible first | exact HB.out | apply below_alloc | apply pw_below_drewN | apply below_drew1) | exact HB.out)⟩⟩
          rw [hn1]
          (with_reducible repeat (first | apply Kd.S_alloc | apply Kd.S_drewN | apply Kd.S_drew))
          exact nk_back HH.out HN.out.2.2.2 (k71_mkM _ _ _ (⟨xv, wrap64 (xv + 1), rl_, m_⟩ : S71) HR.out)
    · have hdec : decide (xi < (l0.length : Int)) = false := decide_eq_false hi
      obtain ⟨post, H, hr⟩ := HA.out
      have HO1 := HO.out
      rw [List.drop_eq_nil_of_le (by omega)] at H HO1
      obtain ⟨rfl, rfl⟩ := Prod.mk.inj (Option.some.inj H)
      rw [List.append_nil] at HO1 hr
      subst hr
      have HS := Aside0.mk HO1
      clear H HO1 HA HO hi
      go_wp2
      go_ret
      exact ⟨rfl, by (with_reducible repeat (first | apply Kd.S_alloc | apply Kd.S_drewN | apply Kd.S_drew)); exact HS.out, by repeat (first | (with_reducible first | exact HB.out | apply below_alloc | apply pw_below_drewN | apply below_drew1) | exact HB.out), by repeat (first | (with_reducible first | exact HK.out | apply Kept.alloc | apply Kept.drewN | apply Kept.drew) | exact HK.out)⟩

/-! ### laws_markCloud: function 39 (by a program of this session: it hands its rows over one by one) -/
def laws_markCloud.f (k : Nat) (l0_0 : List (S114)) (a0_1 : Int) (l0_2 : List (S161)) (l0_3 : List (S71)) (a1 : Int) : Option (Int × (List (S114)) × (List (S161)) × (List (S71))) := (laws_markLogEntryS.f k l0_0 a1).bind fun p0_ => (laws_markEpochBoxes.f k a0_1 l0_2 p0_.1).bind fun p1_ => (laws_markSealedBundleS.f k l0_3 p1_.1).bind fun p2_ => some (p2_.1, p0_.2, p1_.2, p2_.2)
theorem laws_markCloud.mono : ∀ a0 a1 a2 a3 a4 k, LeO (laws_markCloud.f k a0 a1 a2 a3 a4) (laws_markCloud.f (k + 1) a0 a1 a2 a3 a4) := by
  intro a0 a1 a2 a3 a4 k
  unfold laws_markCloud.f
  exact LeO.bind (laws_markLogEntryS.mono _ _ _) (fun _ => LeO.bind (laws_markEpochBoxes.mono _ _ _ _) (fun _ => LeO.bind (laws_markSealedBundleS.mono _ _ _) (fun _ => LeO.refl _)))
set_option maxHeartbeats 8000000 in
set_option maxRecDepth 100000 in
theorem laws_markCloud.calls (k : Nat) (P0_0_ : Nat → Prop) (u9000_ : Value) (l0_0 : List (S114)) (a0_1 : Int) (P0_2_ : Nat → Prop) (u9001_ : Value) (l0_2 : List (S161)) (P0_3_ : Nat → Prop) (u9002_ : Value) (l0_3 : List (S71)) (a1 : Int) (r1 : Int) (r2 : List (S114)) (r3 : List (S161)) (r4 : List (S71)) (w0 w : World) (hB : Below w0.heap.size w0 w) (ho0_0 : Kd.R k114 114 w w0.heap.size P0_0_ u9000_ l0_0) (hp0_0_0_2 : ∀ k_, P0_0_ k_ → ¬ P0_2_ k_) (hp0_0_0_3 : ∀ k_, P0_0_ k_ → ¬ P0_3_ k_) (ho0_2 : Kd.S k161 161 w w0.heap.size P0_2_ u9001_ l0_2) (hp0_2_0_3 : ∀ k_, P0_2_ k_ → ¬ P0_3_ k_) (ho0_3 : Kd.S k71 71 w w0.heap.size P0_3_ u9002_ l0_3) (h : laws_markCloud.f k l0_0 a0_1 l0_2 l0_3 a1 = some (r1, r2, r3, r4)) :
    Calls Try.prog 39 #[.agg #[u9000_, .int .i64 a0_1, u9001_, u9002_], .int .i64 a1] w fun e w' => e = .returned (.int .i64 r1) ∧ Kd.R k114 114 w' w0.heap.size (fun k_ => P0_0_ k_) u9000_ r2 ∧ Kd.S k161 161 w' w0.heap.size (fun k_ => P0_2_ k_) u9001_ r3 ∧ Kd.S k71 71 w' w0.heap.size (fun k_ => P0_3_ k_) u9002_ r4 ∧ Below w0.heap.size w0 w' ∧ Kept w w' (fun k_ => P0_0_ k_ ∨ P0_2_ k_ ∨ P0_3_ k_) := by
  have hu49 := Try.underlying49
  have hu62 := Try.underlying62
  have HB := Aside0.mk hB
  have HK := Aside0.mk (Kept.refl w (fun k_ => P0_0_ k_ ∨ P0_2_ k_ ∨ P0_3_ k_))
  obtain ⟨okq0_0, hoo, hii⟩ := lk_Ri ho0_0
  obtain ⟨Aq0_0, cq0_0, rfl⟩ := Kd.R_slice hoo
  have HOq0_0 := Aside0.mk hoo
  have HIq0_0 := Aside0.mk hii
  clear hoo hii ho0_0
  obtain ⟨okq0_2, hoo, hii⟩ := lk_Si ho0_2
  obtain ⟨Aq0_2, cq0_2, rfl⟩ := Kd.S_slice hoo
  have HOq0_2 := Aside0.mk hoo
  have HIq0_2 := Aside0.mk hii
  clear hoo hii ho0_2
  obtain ⟨okq0_3, hoo, hii⟩ := lk_Si ho0_3
  obtain ⟨Aq0_3, cq0_3, rfl⟩ := Kd.S_slice hoo
  have HOq0_3 := Aside0.mk hoo
  have HIq0_3 := Aside0.mk hii
  clear hoo hii ho0_3
  have HPq0_0_q0_2 := Aside0.mk hp0_0_0_2
  have HPq0_2_q0_0 := Aside0.mk (fun k_ h1_ h2_ => hp0_0_0_2 k_ h2_ h1_ : ∀ k_, P0_2_ k_ → ¬ P0_0_ k_)
  clear hp0_0_0_2
  have HPq0_0_q0_3 := Aside0.mk hp0_0_0_3
  have HPq0_3_q0_0 := Aside0.mk (fun k_ h1_ h2_ => hp0_0_0_3 k_ h2_ h1_ : ∀ k_, P0_3_ k_ → ¬ P0_0_ k_)
  clear hp0_0_0_3
  have HPq0_2_q0_3 := Aside0.mk hp0_2_0_3
  have HPq0_3_q0_2 := Aside0.mk (fun k_ h1_ h2_ => hp0_2_0_3 k_ h2_ h1_ : ∀ k_, P0_3_ k_ → ¬ P0_2_ k_)
  clear hp0_2_0_3
  clear hB
  unfold laws_markCloud.f at h
  obtain ⟨⟨m0_, y0_⟩, C0, h⟩ := Option.bind_eq_some_iff.mp h
  have A0q := Aside0.mk C0
  clear C0
  obtain ⟨⟨m1_, y1_⟩, C1, h⟩ := Option.bind_eq_some_iff.mp h
  have A1q := Aside0.mk C1
  clear C1
  obtain ⟨⟨m2_, y2_⟩, C2, h⟩ := Option.bind_eq_some_iff.mp h
  have A2q := Aside0.mk C2
  clear C2
  simp only [Option.some.injEq, Prod.mk.injEq] at h
  obtain ⟨rfl, rfl, rfl, rfl⟩ := h
  go_enter Try.func39, Try.ntmps39
  go_wp2_with (first | ((with_reducible refine gate_dst (N := 2) rfl ?_); refine box_event ?hg (N := 2) ?hd (cs := #[.slice Aq0_0 l0_0.length cq0_0, .int .i64 a0_1, .slice Aq0_2 l0_2.length cq0_2, .slice Aq0_3 l0_3.length cq0_3]) (t := 62) ?hr ?_; (case hd => rfl); (case hg => rfl); (case hr => first | (go_simp; done) | (go_simp; rfl)); intro gb7001 hg wv1 hbox hb; have n0_ := Aside0.mk (Kd.R_kept HOq0_0.out (Kept.below (show Kept w w (fun k_ => False) from by repeat (first | (with_reducible first | exact Kept.refl _ _ | apply Kept.alloc | apply Kept.drewN | apply Kept.drew) | exact Kept.refl _ _)) hb) (fun _ _ hs_ => hs_.elim)); have n1_ := Aside0.mk (Kd.S_kept HOq0_2.out (Kept.below (show Kept w w (fun k_ => False) from by repeat (first | (with_reducible first | exact Kept.refl _ _ | apply Kept.alloc | apply Kept.drewN | apply Kept.drew) | exact Kept.refl _ _)) hb) (fun _ _ hs_ => hs_.elim)); have n2_ := Aside0.mk (Kd.S_kept HOq0_3.out (Kept.below (show Kept w w (fun k_ => False) from by repeat (first | (with_reducible first | exact Kept.refl _ _ | apply Kept.alloc | apply Kept.drewN | apply Kept.drew) | exact Kept.refl _ _)) hb) (fun _ _ hs_ => hs_.elim)); have n3_ := Aside0.mk (below_step (by repeat (first | (with_reducible first | exact HB.out | apply below_alloc | apply pw_below_drewN | apply below_drew1) | exact HB.out)) hb); have n4_ := Aside0.mk (Kept.then_ HK.out (Kept.below (show Kept w w (fun k_ => False) from by repeat (first | (with_reducible first | exact Kept.refl _ _ | apply Kept.alloc | apply Kept.drewN | apply Kept.drew) | exact Kept.refl _ _)) hb) (fun k_ hs_ => .inr (hs_.elim))); have n5_ := Aside0.mk (hbox); have n6_ := Aside0.mk ((by rw [hg]; exact Nat.le_trans HB.out.size ((show Kept w w (fun k_ => False) from by repeat (first | (with_reducible first | exact Kept.refl _ _ | apply Kept.alloc | apply Kept.drewN | apply Kept.drew) | exact Kept.refl _ _))).1 : w0.heap.size ≤ gb7001)); have n7_ := Aside0.mk ((⟨by rw [hg]; exact ((show Kept w w (fun k_ => False) from by repeat (first | (with_reducible first | exact Kept.refl _ _ | apply Kept.alloc | apply Kept.drewN | apply Kept.drew) | exact Kept.refl _ _))).1, blk_lt hbox⟩ : w.heap.size ≤ gb7001 ∧ gb7001 < wv1.heap.size)); have n8_ := Aside0.mk (((Kept.below (show Kept w w (fun k_ => False) from by repeat (first | (with_reducible first | exact Kept.refl _ _ | apply Kept.alloc | apply Kept.drewN | apply Kept.drew) | exact Kept.refl _ _)) hb).1 : w.heap.size ≤ wv1.heap.size)); clear HOq0_0; clear HOq0_2; clear HOq0_3; clear HB; clear HK; have HOq0_0 := n0_; have HOq0_2 := n1_; have HOq0_3 := n2_; have HB := n3_; have HK := n4_; have BK7001 := n5_; have GE7001 := n6_; have HG7001 := n7_; have HL1 := n8_; clear n0_ n1_ n2_ n3_ n4_ n5_ n6_ n7_ n8_; clear hb hbox hg; have hcz1_0 : wv1.cell? ⟨gb7001, 0, none⟩ = some (.slice Aq0_0 l0_0.length cq0_0) := (blk_cell BK7001.out 0).trans rfl; have hcz1_f0 := blk_frozen BK7001.out 0; have hcz1_1 : wv1.cell? ⟨gb7001, 1, none⟩ = some (.int .i64 a0_1) := (blk_cell BK7001.out 1).trans rfl; have hcz1_f1 := blk_frozen BK7001.out 1; have hcz1_2 : wv1.cell? ⟨gb7001, 2, none⟩ = some (.slice Aq0_2 l0_2.length cq0_2) := (blk_cell BK7001.out 2).trans rfl; have hcz1_f2 := blk_frozen BK7001.out 2; have hcz1_3 : wv1.cell? ⟨gb7001, 3, none⟩ = some (.slice Aq0_3 l0_3.length cq0_3) := (blk_cell BK7001.out 3).trans rfl; have hcz1_f3 := blk_frozen BK7001.out 3) | ((with_reducible refine gate_callee (f := 44) rfl ?_); refine goesL_ (some 8) rfl rfl Try.func44 (by kernel_rfl) rfl #[.slice Aq0_0 l0_0.length cq0_0, .int .i64 a1] rfl (by (try simp only [List.map_toArray, List.map_cons, List.map_nil]); first | done | rfl | (simp only [List.length_drop, List.length_take]; rfl)) ?_; (with_reducible refine (laws_markLogEntryS.calls k (fun k_ => some k_ = (.slice Aq0_0 l0_0.length cq0_0 : Value).ownBlock ∧ okq0_0 k_) (.slice Aq0_0 l0_0.length cq0_0) l0_0 a1 m0_ y0_ w0 _ ?side1 ?side2 A0q.out).mono ?_); (case side1 => repeat (first | (with_reducible first | exact HB.out | apply below_alloc | apply pw_below_drewN | apply below_drew1) | exact HB.out)); (case side2 => exact Kd.R_tight2 rfl (Kd.R_kept HOq0_0.out (show Kept wv1 wv1 (fun k_ => False) from by repeat (first | (with_reducible first | exact Kept.refl _ _ | apply Kept.alloc | apply Kept.drewN | apply Kept.drew) | exact Kept.refl _ _)) (fun _ _ hs_ => hs_.elim))); rintro e wv2 ⟨rfl, hy0, hb, hkp⟩; refine ⟨_, rfl, ?_⟩; have hkW := (show Kept wv1 wv1 (fun k_ => False) from by repeat (first | (with_reducible first | exact Kept.refl _ _ | apply Kept.alloc | apply Kept.drewN | apply Kept.drew) | exact Kept.refl _ _)); have n0_ := Aside0.mk (Kd.R_reok rfl hy0 (fun k_ e_ => HOq0_0.out.1 k_ e_)); have n1_ := Aside0.mk (Kd.S_kept (Kd.S_kept HOq0_2.out hkW (fun _ _ hs_ => hs_.elim)) hkp (fun k_ hk_ hs_ => (have i_ := HIq0_2.out k_ hk_; (have j_ := HIq0_0.out _ (hs_).2; HPq0_2_q0_0.out _ i_.2 j_.2)))); have n2_ := Aside0.mk (Kd.S_kept (Kd.S_kept HOq0_3.out hkW (fun _ _ hs_ => hs_.elim)) hkp (fun k_ hk_ hs_ => (have i_ := HIq0_3.out k_ hk_; (have j_ := HIq0_0.out _ (hs_).2; HPq0_3_q0_0.out _ i_.2 j_.2)))); have n3_ := Aside0.mk (blk_kept (blk_kept BK7001.out (show Kept wv1 wv1 (fun k_ => False) from by repeat (first | (with_reducible first | exact Kept.refl _ _ | apply Kept.alloc | apply Kept.drewN | apply Kept.drew) | exact Kept.refl _ _)) (fun hs_ => hs_.elim)) hkp (fun hs_ => (have i_ := HG7001.out; (have j_ := HIq0_0.out _ (hs_).2; by have z0_ := HL1.out; omega)))); have n4_ := Aside0.mk (Kept.then_ (Kept.then_ HK.out hkW (fun k_ hs_ => .inr (hs_.elim))) hkp (fun k_ hs_ => .inl ((.inl (HIq0_0.out k_ hs_.2).2)))); have n5_ := Aside0.mk (hb); have n6_ := Aside0.mk ((Nat.le_trans hkW.1 hkp.1 : wv1.heap.size ≤ wv2.heap.size)); clear HOq0_0; clear HOq0_2; clear HOq0_3; clear BK7001; clear HK; clear HB; have HOq0_0 := n0_; have HOq0_2 := n1_; have HOq0_3 := n2_; have BK7001 := n3_; have HK := n4_; have HB := n5_; have HL2 := n6_; clear n0_ n1_ n2_ n3_ n4_ n5_ n6_; (try clear hb); (try clear hkW); (try clear hk2); (try clear hkp); (try clear hy0); have hcz2_0 : wv2.cell? ⟨gb7001, 0, none⟩ = some (.slice Aq0_0 l0_0.length cq0_0) := (blk_cell BK7001.out 0).trans rfl; have hcz2_f0 := blk_frozen BK7001.out 0; have hcz2_1 : wv2.cell? ⟨gb7001, 1, none⟩ = some (.int .i64 a0_1) := (blk_cell BK7001.out 1).trans rfl; have hcz2_f1 := blk_frozen BK7001.out 1; have hcz2_2 : wv2.cell? ⟨gb7001, 2, none⟩ = some (.slice Aq0_2 l0_2.length cq0_2) := (blk_cell BK7001.out 2).trans rfl; have hcz2_f2 := blk_frozen BK7001.out 2; have hcz2_3 : wv2.cell? ⟨gb7001, 3, none⟩ = some (.slice Aq0_3 l0_3.length cq0_3) := (blk_cell BK7001.out 3).trans rfl; have hcz2_f3 := blk_frozen BK7001.out 3) | ((with_reducible refine gate_callee (f := 61) rfl ?_); refine goesL_ (some 12) rfl rfl Try.func61 (by kernel_rfl) rfl #[.agg #[.int .i64 a0_1, .slice Aq0_2 l0_2.length cq0_2], .int .i64 m0_] rfl (by (try simp only [List.map_toArray, List.map_cons, List.map_nil]); first | done | rfl | (simp only [List.length_drop, List.length_take]; rfl)) ?_; (with_reducible refine (laws_markEpochBoxes.calls k a0_1 (fun k_ => okq0_2 k_) (.slice Aq0_2 l0_2.length cq0_2) l0_2 m0_ m1_ y1_ w0 _ ?side1 ?side2 A1q.out).mono ?_); (case side1 => repeat (first | (with_reducible first | exact HB.out | apply below_alloc | apply pw_below_drewN | apply below_drew1) | exact HB.out)); (case side2 => exact (Kd.S_kept HOq0_2.out (show Kept wv2 wv2 (fun k_ => False) from by repeat (first | (with_reducible first | exact Kept.refl _ _ | apply Kept.alloc | apply Kept.drewN | apply Kept.drew) | exact Kept.refl _ _)) (fun _ _ hs_ => hs_.elim))); rintro e wv3 ⟨rfl, hy0, hb, hkp⟩; refine ⟨_, rfl, ?_⟩; have hkW := (show Kept wv2 wv2 (fun k_ => False) from by repeat (first | (with_reducible first | exact Kept.refl _ _ | apply Kept.alloc | apply Kept.drewN | apply Kept.drew) | exact Kept.refl _ _)); have n0_ := Aside0.mk (Kd.R_kept (Kd.R_kept HOq0_0.out hkW (fun _ _ hs_ => hs_.elim)) hkp (fun k_ hk_ hs_ => (have i_ := HIq0_0.out k_ hk_; (have j_ := HIq0_2.out _ hs_; HPq0_0_q0_2.out _ i_.2 j_.2)))); have n1_ := Aside0.mk (hy0); have n2_ := Aside0.mk (Kd.S_kept (Kd.S_kept HOq0_3.out hkW (fun _ _ hs_ => hs_.elim)) hkp (fun k_ hk_ hs_ => (have i_ := HIq0_3.out k_ hk_; (have j_ := HIq0_2.out _ hs_; HPq0_3_q0_2.out _ i_.2 j_.2)))); have n3_ := Aside0.mk (blk_kept (blk_kept BK7001.out (show Kept wv2 wv2 (fun k_ => False) from by repeat (first | (with_reducible first | exact Kept.refl _ _ | apply Kept.alloc | apply Kept.drewN | apply Kept.drew) | exact Kept.refl _ _)) (fun hs_ => hs_.elim)) hkp (fun hs_ => (have i_ := HG7001.out; (have j_ := HIq0_2.out _ hs_; by have z0_ := HL1.out; have z1_ := HL2.out; omega)))); have n4_ := Aside0.mk (Kept.then_ (Kept.then_ HK.out hkW (fun k_ hs_ => .inr (hs_.elim))) hkp (fun k_ hs_ => .inl ((.inr (.inl (HIq0_2.out k_ hs_).2))))); have n5_ := Aside0.mk (hb); have n6_ := Aside0.mk ((Nat.le_trans hkW.1 hkp.1 : wv2.heap.size ≤ wv3.heap.size)); clear HOq0_0; clear HOq0_2; clear HOq0_3; clear BK7001; clear HK; clear HB; have HOq0_0 := n0_; have HOq0_2 := n1_; have HOq0_3 := n2_; have BK7001 := n3_; have HK := n4_; have HB := n5_; have HL3 := n6_; clear n0_ n1_ n2_ n3_ n4_ n5_ n6_; (try clear hb); (try clear hkW); (try clear hk2); (try clear hkp); (try clear hy0); have hcz3_0 : wv3.cell? ⟨gb7001, 0, none⟩ = some (.slice Aq0_0 l0_0.length cq0_0) := (blk_cell BK7001.out 0).trans rfl; have hcz3_f0 := blk_frozen BK7001.out 0; have hcz3_1 : wv3.cell? ⟨gb7001, 1, none⟩ = some (.int .i64 a0_1) := (blk_cell BK7001.out 1).trans rfl; have hcz3_f1 := blk_frozen BK7001.out 1; have hcz3_2 : wv3.cell? ⟨gb7001, 2, none⟩ = some (.slice Aq0_2 l0_2.length cq0_2) := (blk_cell BK7001.out 2).trans rfl; have hcz3_f2 := blk_frozen BK7001.out 2; have hcz3_3 : wv3.cell? ⟨gb7001, 3, none⟩ = some (.slice Aq0_3 l0_3.length cq0_3) := (blk_cell BK7001.out 3).trans rfl; have hcz3_f3 := blk_frozen BK7001.out 3) | ((with_reducible refine gate_callee (f := 107) rfl ?_); refine goesL_ (some 16) rfl rfl Try.func107 (by kernel_rfl) rfl #[.slice Aq0_3 l0_3.length cq0_3, .int .i64 m1_] rfl (by (try simp only [List.map_toArray, List.map_cons, List.map_nil]); first | done | rfl | (simp only [List.length_drop, List.length_take]; rfl)) ?_; (with_reducible refine (laws_markSealedBundleS.calls k (fun k_ => okq0_3 k_) (.slice Aq0_3 l0_3.length cq0_3) l0_3 m1_ m2_ y2_ w0 _ ?side1 ?side2 A2q.out).mono ?_); (case side1 => repeat (first | (with_reducible first | exact HB.out | apply below_alloc | apply pw_below_drewN | apply below_drew1) | exact HB.out)); (case side2 => exact (Kd.S_kept HOq0_3.out (show Kept wv3 wv3 (fun k_ => False) from by repeat (first | (with_reducible first | exact Kept.refl _ _ | apply Kept.alloc | apply Kept.drewN | apply Kept.drew) | exact Kept.refl _ _)) (fun _ _ hs_ => hs_.elim))); rintro e wv4 ⟨rfl, hy0, hb, hkp⟩; refine ⟨_, rfl, ?_⟩; have hkW := (show Kept wv3 wv3 (fun k_ => False) from by repeat (first | (with_reducible first | exact Kept.refl _ _ | apply Kept.alloc | apply Kept.drewN | apply Kept.drew) | exact Kept.refl _ _)); have n0_ := Aside0.mk (Kd.R_kept (Kd.R_kept HOq0_0.out hkW (fun _ _ hs_ => hs_.elim)) hkp (fun k_ hk_ hs_ => (have i_ := HIq0_0.out k_ hk_; (have j_ := HIq0_3.out _ hs_; HPq0_0_q0_3.out _ i_.2 j_.2)))); have n1_ := Aside0.mk (Kd.S_kept (Kd.S_kept HOq0_2.out hkW (fun _ _ hs_ => hs_.elim)) hkp (fun k_ hk_ hs_ => (have i_ := HIq0_2.out k_ hk_; (have j_ := HIq0_3.out _ hs_; HPq0_2_q0_3.out _ i_.2 j_.2)))); have n2_ := Aside0.mk (hy0); have n3_ := Aside0.mk (blk_kept (blk_kept BK7001.out (show Kept wv3 wv3 (fun k_ => False) from by repeat (first | (with_reducible first | exact Kept.refl _ _ | apply Kept.alloc | apply Kept.drewN | apply Kept.drew) | exact Kept.refl _ _)) (fun hs_ => hs_.elim)) hkp (fun hs_ => (have i_ := HG7001.out; (have j_ := HIq0_3.out _ hs_; by have z0_ := HL1.out; have z1_ := HL2.out; have z2_ := HL3.out; omega)))); have n4_ := Aside0.mk (Kept.then_ (Kept.then_ HK.out hkW (fun k_ hs_ => .inr (hs_.elim))) hkp (fun k_ hs_ => .inl ((.inr (.inr (HIq0_3.out k_ hs_).2))))); have n5_ := Aside0.mk (hb); have n6_ := Aside0.mk ((Nat.le_trans hkW.1 hkp.1 : wv3.heap.size ≤ wv4.heap.size)); clear HOq0_0; clear HOq0_2; clear HOq0_3; clear BK7001; clear HK; clear HB; have HOq0_0 := n0_; have HOq0_2 := n1_; have HOq0_3 := n2_; have BK7001 := n3_; have HK := n4_; have HB := n5_; have HL4 := n6_; clear n0_ n1_ n2_ n3_ n4_ n5_ n6_; (try clear hb); (try clear hkW); (try clear hk2); (try clear hkp); (try clear hy0); have hcz4_0 : wv4.cell? ⟨gb7001, 0, none⟩ = some (.slice Aq0_0 l0_0.length cq0_0) := (blk_cell BK7001.out 0).trans rfl; have hcz4_f0 := blk_frozen BK7001.out 0; have hcz4_1 : wv4.cell? ⟨gb7001, 1, none⟩ = some (.int .i64 a0_1) := (blk_cell BK7001.out 1).trans rfl; have hcz4_f1 := blk_frozen BK7001.out 1; have hcz4_2 : wv4.cell? ⟨gb7001, 2, none⟩ = some (.slice Aq0_2 l0_2.length cq0_2) := (blk_cell BK7001.out 2).trans rfl; have hcz4_f2 := blk_frozen BK7001.out 2; have hcz4_3 : wv4.cell? ⟨gb7001, 3, none⟩ = some (.slice Aq0_3 l0_3.length cq0_3) := (blk_cell BK7001.out 3).trans rfl; have hcz4_f3 := blk_frozen BK7001.out 3))
  go_ret
  exact ⟨rfl, Kd.R_mono (Kd.R_kept HOq0_0.out (show Kept wv4 wv4 (fun k_ => False) from by repeat (first | (with_reducible first | exact Kept.refl _ _ | apply Kept.alloc | apply Kept.drewN | apply Kept.drew) | exact Kept.refl _ _)) (fun _ _ hs_ => hs_.elim)) (fun k_ hk_ => (HIq0_0.out k_ hk_).2), Kd.S_mono (Kd.S_kept HOq0_2.out (show Kept wv4 wv4 (fun k_ => False) from by repeat (first | (with_reducible first | exact Kept.refl _ _ | apply Kept.alloc | apply Kept.drewN | apply Kept.drew) | exact Kept.refl _ _)) (fun _ _ hs_ => hs_.elim)) (fun k_ hk_ => (HIq0_2.out k_ hk_).2), Kd.S_mono (Kd.S_kept HOq0_3.out (show Kept wv4 wv4 (fun k_ => False) from by repeat (first | (with_reducible first | exact Kept.refl _ _ | apply Kept.alloc | apply Kept.drewN | apply Kept.drew) | exact Kept.refl _ _)) (fun _ _ hs_ => hs_.elim)) (fun k_ hk_ => (HIq0_3.out k_ hk_).2), by repeat (first | (with_reducible first | exact HB.out | apply below_alloc | apply pw_below_drewN | apply below_drew1) | exact HB.out), Kept.then_ HK.out (show Kept wv4 wv4 (fun k_ => False) from by repeat (first | (with_reducible first | exact Kept.refl _ _ | apply Kept.alloc | apply Kept.drewN | apply Kept.drew) | exact Kept.refl _ _)) (fun k_ hs_ => .inr (hs_.elim))⟩

/-! ### laws_markSealedBundle: function 40 -/
def laws_markSealedBundle.f (k : Nat) (a0_0 : Int) (a0_1 : Int) (l0_2 : List Int) (a0_3 : Int) (a1 : Int) : Option (Int × List Int) := (laws_markByteS.f k l0_2 a1).bind fun bt261 => (some (bt261.1, bt261.2))
theorem laws_markSealedBundle.mono : ∀ a0 a1 a2 a3 a4 k, LeO (laws_markSealedBundle.f k a0 a1 a2 a3 a4) (laws_markSealedBundle.f (k + 1) a0 a1 a2 a3 a4) := by
  intro a0 a1 a2 a3 a4 k
  unfold laws_markSealedBundle.f
  repeat' first
      | (with_reducible exact laws_markByteS.mono _ _ _)
      | (with_reducible exact LeO.refl _)
      | (with_reducible exact LeO.none _)
      | (with_reducible refine LeO.ite ?_ ?_)
      | (with_reducible refine LeO.bind ?_ (fun _ => ?_))
      | exact laws_markByteS.mono _ _ _
      | exact LeO.none _
      | refine LeO.ite ?_ ?_
      | refine LeO.bind ?_ (fun _ => ?_)
set_option maxHeartbeats 8000000 in
set_option maxRecDepth 100000 in
theorem laws_markSealedBundle.calls (k : Nat) (a0_0 : Int) (a0_1 : Int) (P0_2_ : Nat → Prop) (u9000_ : Value) (l0_2 : List Int) (a0_3 : Int) (a1 : Int) (r1 : Int) (r2 : List Int) (w0 w : World) (hB : Below w0.heap.size w0 w) (ho0_2 : Kd.R (Kd.int .u8) 5 w w0.heap.size P0_2_ u9000_ l0_2) (h : laws_markSealedBundle.f k a0_0 a0_1 l0_2 a0_3 a1 = some (r1, r2)) :
    Calls Try.prog 40 #[.agg #[.int .i64 a0_0, .int .i64 a0_1, u9000_, .int .i64 a0_3], .int .i64 a1] w fun e w' => e = .returned (.int .i64 r1) ∧ Kd.R (Kd.int .u8) 5 w' w0.heap.size (fun k_ => (P0_2_ k_ ∨ w.heap.size ≤ k_)) u9000_ r2 ∧ Below w0.heap.size w0 w' ∧ Kept w w' (fun k_ => P0_2_ k_) := by
  have hu71 := Try.underlying71
  have HO0_2 := Aside0.mk (show Kd.R (Kd.int .u8) 5 w w0.heap.size (fun k_ => (P0_2_ k_ ∨ w.heap.size ≤ k_)) u9000_ l0_2 from Kd.R_mono ho0_2 (fun k_ hk => (.inl hk)))
  have HK := Aside0.mk (Kept.refl w (fun k_ => P0_2_ k_))
  have HW0 := Aside0.mk hB.size
  have HB := Aside0.mk hB
  clear hB
  have H : ((laws_markByteS.f k l0_2 a1).bind fun bt261 => (some (bt261.1, bt261.2))) = some (r1, r2) := h
  clear h
  replace H := Option.bind_eq_some_iff.mp H
  obtain ⟨⟨t261, t262⟩, A30, H⟩ := H
  replace H : (some (t261, t262)) = some (r1, r2) := H
  have A3 := Aside0.mk A30
  clear A30
  simp only [Option.some.injEq, Prod.mk.injEq] at H
  obtain ⟨rfl, rfl⟩ := H
  obtain ⟨Ao4, co4, eo4⟩ := Kd.R_slice HO0_2.out
  subst eo4
  go_enter Try.func40, Try.ntmps40
  go_wp2_with (first | ((with_reducible refine gate_dst (N := 2) rfl ?_); refine box_event ?hg (N := 2) ?hd (cs := #[.int .i64 a0_0, .int .i64 a0_1, .slice Ao4 l0_2.length co4, .int .i64 a0_3]) (t := 71) ?hr ?_; (case hd => rfl); (case hg => rfl); (case hr => first | (go_simp; done) | (go_simp; rfl)); intro gb260 hg w5 hbox hb; have n0_ := Aside0.mk (Kd.R_below (by (with_reducible repeat (first | apply Kd.R_alloc | apply Kd.R_drewN | apply Kd.R_drew)); exact HO0_2.out) hb); have n1_ := Aside0.mk (Kept.below (S := (fun k_ => P0_2_ k_)) (by repeat (first | (with_reducible first | exact HK.out | apply Kept.alloc | apply Kept.drewN | apply Kept.drew) | exact HK.out)) hb); have n2_ := Aside0.mk (below_step (by repeat (first | (with_reducible first | exact HB.out | apply below_alloc | apply pw_below_drewN | apply below_drew1) | exact HB.out)) hb); have n3_ := Aside0.mk (hbox); have n4_ := Aside0.mk ((by rw [hg]; exact (by first | exact HK.out.1 | exact (show Kept w _ (fun k_ => P0_2_ k_) from by repeat (first | (with_reducible first | exact HK.out | apply Kept.alloc | apply Kept.drewN | apply Kept.drew) | exact HK.out)).1) : w.heap.size ≤ gb260)); have n5_ := Aside0.mk ((by rw [hg]; exact (below_size (by repeat (first | (with_reducible first | exact HB.out | apply below_alloc | apply pw_below_drewN | apply below_drew1) | exact HB.out))) : w0.heap.size ≤ gb260)); clear HO0_2; clear HK; clear HB; have HO0_2 := n0_; have HK := n1_; have HB := n2_; have BK260 := n3_; have GW260 := n4_; have GE260 := n5_; clear n0_ n1_ n2_ n3_ n4_ n5_; clear hb hbox hg; have hcz6_0 : w5.cell? ⟨gb260, 0, none⟩ = some (.int .i64 a0_0) := (blk_cell BK260.out 0).trans rfl; have hcz6_1 : w5.cell? ⟨gb260, 1, none⟩ = some (.int .i64 a0_1) := (blk_cell BK260.out 1).trans rfl; have hcz6_2 : w5.cell? ⟨gb260, 2, none⟩ = some (.slice Ao4 l0_2.length co4) := (blk_cell BK260.out 2).trans rfl; have hcz6_3 : w5.cell? ⟨gb260, 3, none⟩ = some (.int .i64 a0_3) := (blk_cell BK260.out 3).trans rfl; have hfz6_0 := blk_frozen BK260.out 0; have hfz6_1 := blk_frozen BK260.out 1; have hfz6_2 := blk_frozen BK260.out 2; have hfz6_3 := blk_frozen BK260.out 3) | ((with_reducible refine gate_callee (f := 108) rfl ?_); refine goesL_ (some 8) rfl rfl Try.func108 (by kernel_rfl) rfl #[.slice Ao4 l0_2.length co4, .int .i64 a1] rfl (by (try simp only [List.map_toArray, List.map_cons, List.map_nil]); first | done | rfl | (simp only [List.length_drop, List.length_take]; rfl)) ?_; (with_reducible refine (laws_markByteS.calls k (fun k_ => some k_ = (.slice Ao4 l0_2.length co4 : Value).ownBlock) (.slice Ao4 l0_2.length co4) l0_2 a1 t261 t262 w0 _ ?side1 ?side2 A3.out).mono ?_); (case side1 => repeat (first | (with_reducible first | exact HB.out | apply below_alloc | apply pw_below_drewN | apply below_drew1 | refine below_set ?_ GE260.out) | exact HB.out)); (case side2 => exact Kd.R_tight rfl HO0_2.out); rintro e w7 ⟨rfl, hy0, hb, hkp⟩; refine ⟨_, rfl, ?_⟩; have n0_ := Aside0.mk (Kd.R_reok rfl hy0 (fun k_ e_ => HO0_2.out.1 k_ e_)); have n1_ := Aside0.mk (blk_kept (by (with_reducible repeat (first | refine blk_drewN ?_ _ | refine blk_drew ?_ | refine blk_alloc ?_ _)); exact BK260.out) hkp (fun hs_ => (fun e_ => (Kd.R_ne HO0_2.out BK260.out (by decide)) e_) hs_)); have n2_ := Aside0.mk (Kept.then_ (S := (fun k_ => P0_2_ k_)) (by repeat (first | (with_reducible first | exact HK.out | apply Kept.alloc | apply Kept.drewN | apply Kept.drew | refine Kept.setCell ?_ (.inr GW260.out) _) | exact HK.out)) hkp (fun k_ hs_ => (fun e_ => (HO0_2.out.1 k_ e_.symm)) hs_)); have n3_ := Aside0.mk (hb); clear HO0_2; clear BK260; clear HK; clear HB; have HO0_2 := n0_; have BK260 := n1_; have HK := n2_; have HB := n3_; clear n0_ n1_ n2_ n3_; (try clear hb); (try clear hkp); (try clear hy0)))
  go_ret
  exact ⟨by first | rfl | (simp [errW_none, errW_some] <;> rfl) | (simp [*, errW_none, errW_some] <;> rfl), by (with_reducible repeat (first | apply Kd.R_alloc | apply Kd.R_drewN | apply Kd.R_drew)); exact HO0_2.out, by repeat (first | (with_reducible first | exact HB.out | apply below_alloc | apply pw_below_drewN | apply below_drew1 | refine below_set ?_ GE260.out) | exact HB.out), by repeat (first | (with_reducible first | exact HK.out | apply Kept.alloc | apply Kept.drewN | apply Kept.drew | refine Kept.setCell ?_ (.inr GW260.out) _) | exact HK.out)⟩

/-! ### laws_heldByteS: function 109 -/
def laws_heldByteS.l0 : Nat → List Int → Int → Int → Option (Int)
  | 0, _, _, _ => none
  | k + 1, x0, x1, x5 => if x5 < (x0.length : Int) then (if 0 ≤ x5 then (if (rd x0 x5) = ((x1) % 256) then (laws_heldByteS.l0 k x0 (wrap64 (x1 + 1)) (wrap64 (x5 + 1))) else (some (-1))) else (none)) else (some x1)
def laws_heldByteS.f (k : Nat) (l0 : List Int) (a1 : Int) : Option (Int) := laws_heldByteS.l0 k l0 a1 0
theorem laws_heldByteS.mono_l : ∀ k, (∀ y0 y1 y2, LeO (laws_heldByteS.l0 k y0 y1 y2) (laws_heldByteS.l0 (k + 1) y0 y1 y2))
  | 0 => fun _ _ _ r h => by simp [laws_heldByteS.l0] at h
  | k + 1 => by
    have ih0 := laws_heldByteS.mono_l k
    · intro y0 y1 y2
      unfold laws_heldByteS.l0
      repeat' first
      | (with_reducible exact ih0 _ _ _)
      | (with_reducible exact LeO.refl _)
      | (with_reducible exact LeO.none _)
      | (with_reducible refine LeO.ite ?_ ?_)
      | (with_reducible refine LeO.bind ?_ (fun _ => ?_))
      | exact ih0 _ _ _
      | exact LeO.none _
      | refine LeO.ite ?_ ?_
      | refine LeO.bind ?_ (fun _ => ?_)
theorem laws_heldByteS.mono : ∀ a0 a1 k, LeO (laws_heldByteS.f k a0 a1) (laws_heldByteS.f (k + 1) a0 a1) := by
  intro a0 a1 k
  have ih0 := laws_heldByteS.mono_l k
  unfold laws_heldByteS.f
  repeat' first
      | (with_reducible exact ih0 _ _ _)
      | (with_reducible exact LeO.refl _)
      | (with_reducible exact LeO.none _)
      | (with_reducible refine LeO.ite ?_ ?_)
      | (with_reducible refine LeO.bind ?_ (fun _ => ?_))
      | exact ih0 _ _ _
      | exact LeO.none _
      | refine LeO.ite ?_ ?_
      | refine LeO.bind ?_ (fun _ => ?_)
set_option maxHeartbeats 8000000 in
set_option maxRecDepth 100000 in
theorem laws_heldByteS.calls (k : Nat) (A0 : Option Addr) (c0 : Nat) (l0 : List Int) (a1 : Int) (r : Int) (w : World) (hr0 : Kd.C (Kd.int .u8) w A0 l0.length l0) (hc0 : l0.length ≤ c0) (h : laws_heldByteS.f k l0 a1 = some r) :
    Calls Try.prog 109 #[.slice A0 l0.length c0, .int .i64 a1] w fun e w' => e = .returned (.int .i64 r) ∧ Drawn0 w w' := by
  have HR0 := Aside0.mk hr0
  have HC0 := Aside0.mk hc0
  clear hr0 hc0
  have H : (laws_heldByteS.l0 k l0 a1 0) = some r := h
  clear h
  have H' := Aside0.mk H
  clear H
  go_enter Try.func109, Try.ntmps109
  go_wp2
  go_loopg [1, 5] k (fun kq v1 v5 w' => ∃ (x1_1 : Int) (x5_1 : Int), v1 = .int .i64 x1_1 ∧ v5 = .int .i64 x5_1 ∧ Aside0 (laws_heldByteS.l0 kq l0 x1_1 x5_1 = some r) ∧ Aside0 (kq ≤ k) ∧ Drawn0 w w')
  case atStart => exact ⟨(a1), (0), (by first | rfl | (simp; done) | (simp [*]; done)), (by first | rfl | (simp; done) | (simp [*]; done)), H', ⟨Nat.le_refl _⟩, by repeat (first | exact Drawn0.refl _ | apply Drawn0.step)⟩
  case round =>
    clear H'
    try clear c1
    try clear p2
    obtain ⟨x1_1, x5_1, rfl, rfl, HA, HK1, ⟨m1, rfl⟩⟩ := hrel
    cases gk with
    | zero => exact absurd HA.out (by simp [laws_heldByteS.l0])
    | succ k1 =>
      have H := HA.out
      clear HA
      simp only [laws_heldByteS.l0] at H
      by_cases c3 : x5_1 < (l0.length : Int)
      · rw [if_pos c3] at H
        have c3b0 : decide (x5_1 < (l0.length : Int)) = true := decide_eq_true c3
        clear c3
        by_cases c4 : 0 ≤ x5_1
        · rw [if_pos c4] at H
          have c4b0 : decide (0 ≤ x5_1) = true := decide_eq_true c4
          clear c4
          by_cases c5 : (rd l0 x5_1) = ((x1_1) % 256)
          · rw [if_pos c5] at H
            have c5b0 : ((rd l0 x5_1) == ((x1_1) % 256)) = true := beq_iff_eq.mpr c5
            have c5b1 : ((rd l0 x5_1) != ((x1_1) % 256)) = false := bne_eq_false_iff_eq.mpr c5
            clear c5
            have H' := Aside0.mk H
            clear H
            have p263 : 0 ≤ (x5_1 : Int) := of_decide_eq_true (by first | (with_reducible assumption) | assumption)
            have q263 : x5_1 < (l0.length : Int) := of_decide_eq_true (by first | (with_reducible assumption) | assumption)
            obtain ⟨ad263, e263, hx263_0⟩ := Kd.at_int HR0.out x5_1 p263 q263
            cases e263
            replace p263 := eq_true p263
            replace q263 := eq_true q263
            go_wp2
            go_roundg k1
            case measure => have := HK1.out; omega
            case rel => exact ⟨(wrap64 (x1_1 + 1)), (wrap64 (x5_1 + 1)), (by first | rfl | (simp; done) | (simp [*]; done)), (by first | rfl | (simp; done) | (simp [*]; done)), H', ⟨by have := HK1.out; omega⟩, by repeat (first | exact Drawn0.refl _ | apply Drawn0.step)⟩
          · rw [if_neg c5] at H
            have c5b0 : ((rd l0 x5_1) == ((x1_1) % 256)) = false := beq_eq_false_iff_ne.mpr c5
            have c5b1 : ((rd l0 x5_1) != ((x1_1) % 256)) = true := bne_iff_ne.mpr c5
            obtain rfl := Option.some.inj H
            have p263 : 0 ≤ (x5_1 : Int) := of_decide_eq_true (by first | (with_reducible assumption) | assumption)
            have q263 : x5_1 < (l0.length : Int) := of_decide_eq_true (by first | (with_reducible assumption) | assumption)
            obtain ⟨ad263, e263, hx263_0⟩ := Kd.at_int HR0.out x5_1 p263 q263
            cases e263
            replace p263 := eq_true p263
            replace q263 := eq_true q263
            go_wp2
            go_ret
            exact ⟨by first | rfl | (simp; done) | (simp [*]; done), by repeat (first | exact Drawn0.refl _ | apply Drawn0.step)⟩
        · rw [if_neg c4] at H
          exact absurd H (by simp)
      · rw [if_neg c3] at H
        have c3b0 : decide (x5_1 < (l0.length : Int)) = false := decide_eq_false c3
        clear c3
        obtain rfl := Option.some.inj H
        go_wp2
        go_ret
        exact ⟨by first | rfl | (simp; done) | (simp [*]; done), by repeat (first | exact Drawn0.refl _ | apply Drawn0.step)⟩

/-! ### laws_heldSealedBundle: function 41 -/
def laws_heldSealedBundle.f (k : Nat) (a0_0 : Int) (a0_1 : Int) (l0_2 : List Int) (a0_3 : Int) (a1 : Int) : Option (Int) := (laws_heldByteS.f k l0_2 a1).bind fun t265 => (if t265 < 0 then (some (-1)) else (some t265))
theorem laws_heldSealedBundle.mono : ∀ a0 a1 a2 a3 a4 k, LeO (laws_heldSealedBundle.f k a0 a1 a2 a3 a4) (laws_heldSealedBundle.f (k + 1) a0 a1 a2 a3 a4) := by
  intro a0 a1 a2 a3 a4 k
  unfold laws_heldSealedBundle.f
  repeat' first
      | (with_reducible exact laws_heldByteS.mono _ _ _)
      | (with_reducible exact LeO.refl _)
      | (with_reducible exact LeO.none _)
      | (with_reducible refine LeO.ite ?_ ?_)
      | (with_reducible refine LeO.bind ?_ (fun _ => ?_))
      | exact laws_heldByteS.mono _ _ _
      | exact LeO.none _
      | refine LeO.ite ?_ ?_
      | refine LeO.bind ?_ (fun _ => ?_)
set_option maxHeartbeats 8000000 in
set_option maxRecDepth 100000 in
theorem laws_heldSealedBundle.calls (k : Nat) (a0_0 : Int) (a0_1 : Int) (A0_2 : Option Addr) (c0_2 : Nat) (l0_2 : List Int) (a0_3 : Int) (a1 : Int) (r : Int) (w : World) (hr0_2 : Kd.C (Kd.int .u8) w A0_2 l0_2.length l0_2) (hc0_2 : l0_2.length ≤ c0_2) (h : laws_heldSealedBundle.f k a0_0 a0_1 l0_2 a0_3 a1 = some r) :
    Calls Try.prog 41 #[.agg #[.int .i64 a0_0, .int .i64 a0_1, .slice A0_2 l0_2.length c0_2, .int .i64 a0_3], .int .i64 a1] w fun e w' => e = .returned (.int .i64 r) ∧ Below w.heap.size w w' := by
  have hu71 := Try.underlying71
  have HR0_2 := Aside0.mk hr0_2
  have HC0_2 := Aside0.mk hc0_2
  clear hr0_2 hc0_2
  have HB := Aside0.mk (Below.refl w.heap.size w)
  have H : ((laws_heldByteS.f k l0_2 a1).bind fun t265 => (if t265 < 0 then (some (-1)) else (some t265))) = some r := h
  clear h
  replace H := Option.bind_eq_some_iff.mp H
  obtain ⟨t265, A30, H⟩ := H
  replace H : (if t265 < 0 then (some (-1)) else (some t265)) = some r := H
  have A3 := Aside0.mk A30
  clear A30
  have HC4 := Aside0.mk H
  clear H
  go_enter Try.func41, Try.ntmps41
  go_upto_if 10 with (first | ((with_reducible refine gate_dst (N := 2) rfl ?_); refine box_event ?hg (N := 2) ?hd (cs := #[.int .i64 a0_0, .int .i64 a0_1, .slice A0_2 l0_2.length c0_2, .int .i64 a0_3]) (t := 71) ?hr ?_; (case hd => rfl); (case hg => rfl); (case hr => first | (go_simp; done) | (go_simp; rfl)); intro gb264 hg w5 hbox hb; have n0_ := Aside0.mk (below_step (by repeat (first | (with_reducible first | exact HB.out | apply below_alloc | apply pw_below_drewN | apply below_drew1) | exact HB.out)) hb); have n1_ := Aside0.mk (hbox); have n2_ := Aside0.mk ((by rw [hg]; exact (below_size (by repeat (first | (with_reducible first | exact HB.out | apply below_alloc | apply pw_below_drewN | apply below_drew1) | exact HB.out))) : w.heap.size ≤ gb264)); have n3_ := Aside0.mk ((by rw [hg]; exact (below_size (by repeat (first | (with_reducible first | exact HB.out | apply below_alloc | apply pw_below_drewN | apply below_drew1) | exact HB.out))) : w.heap.size ≤ gb264)); clear HB; have HB := n0_; have BK264 := n1_; have GW264 := n2_; have GE264 := n3_; clear n0_ n1_ n2_ n3_; clear hb hbox hg; have hcz6_0 : w5.cell? ⟨gb264, 0, none⟩ = some (.int .i64 a0_0) := (blk_cell BK264.out 0).trans rfl; have hcz6_1 : w5.cell? ⟨gb264, 1, none⟩ = some (.int .i64 a0_1) := (blk_cell BK264.out 1).trans rfl; have hcz6_2 : w5.cell? ⟨gb264, 2, none⟩ = some (.slice A0_2 l0_2.length c0_2) := (blk_cell BK264.out 2).trans rfl; have hcz6_3 : w5.cell? ⟨gb264, 3, none⟩ = some (.int .i64 a0_3) := (blk_cell BK264.out 3).trans rfl; have hfz6_0 := blk_frozen BK264.out 0; have hfz6_1 := blk_frozen BK264.out 1; have hfz6_2 := blk_frozen BK264.out 2; have hfz6_3 := blk_frozen BK264.out 3) | ((with_reducible refine gate_callee (f := 109) rfl ?_); refine goesL_ (some 8) rfl rfl Try.func109 (by kernel_rfl) rfl #[.slice A0_2 l0_2.length c0_2, .int .i64 a1] rfl (by (try simp only [List.map_toArray, List.map_cons, List.map_nil]); first | done | rfl | (simp only [List.length_drop, List.length_take]; rfl)) ?_; (with_reducible refine (laws_heldByteS.calls k _ _ l0_2 a1 t265 _ ?side1 ?side2 A3.out).mono ?_); (case side1 => repeat (first | exact (Kd.C_below HR0_2.out HB.out) | (with_reducible refine Kd.C_alloc ?_ _) | (with_reducible refine Kd.C_drewN ?_ _) | (with_reducible refine Kd.C_drew ?_))); (case side2 => exact HC0_2.out); rintro e w' ⟨rfl, ⟨nd, rfl⟩⟩; refine ⟨_, rfl, ?_⟩))
  (try simp only [Act.put, List.setIfInBounds_toArray, List.set_cons_zero, List.set_cons_succ])
  have H := HC4.out
  clear HC4
  by_cases c7 : t265 < 0
  · rw [if_pos c7] at H
    have c7b0 : decide (t265 < 0) = true := decide_eq_true c7
    clear c7
    (first | rw [c7b0] | (simp only [i64_w, i32_w]; rw [c7b0]) | skip)
    obtain rfl := Option.some.inj H
    go_wp2
    go_ret
    exact ⟨by first | rfl | (simp [errW_none, errW_some] <;> rfl) | (simp [*, errW_none, errW_some] <;> rfl), by repeat (first | (with_reducible first | exact HB.out | apply below_alloc | apply pw_below_drewN | apply below_drew1 | refine below_set ?_ GE264.out) | exact HB.out)⟩
  · rw [if_neg c7] at H
    have c7b0 : decide (t265 < 0) = false := decide_eq_false c7
    clear c7
    (first | rw [c7b0] | (simp only [i64_w, i32_w]; rw [c7b0]) | skip)
    obtain rfl := Option.some.inj H
    go_wp2
    go_ret
    exact ⟨by first | rfl | (simp [errW_none, errW_some] <;> rfl) | (simp [*, errW_none, errW_some] <;> rfl), by repeat (first | (with_reducible first | exact HB.out | apply below_alloc | apply pw_below_drewN | apply below_drew1 | refine below_set ?_ GE264.out) | exact HB.out)⟩

end Go.Proofs.Ytkmndimmglghoaa.PFnExactFetchBundle
