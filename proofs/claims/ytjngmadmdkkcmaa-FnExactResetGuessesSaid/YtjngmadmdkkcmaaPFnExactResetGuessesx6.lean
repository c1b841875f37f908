-- Made by a program of this session, after the kit's print of the translation. Lean checks it.
import Derived.Test.YtjngmadmdkkcmaaPFnExactResetGuessesx0
import Derived.Test.YtjngmadmdkkcmaaPFnExactResetGuessesx4
import Derived.Test.YtjngmadmdkkcmaaPFnExactResetGuessesx5
namespace Go.Proofs.Ytjngmadmdkkcmaa.PFnExactResetGuesses
open Go.RowKit Go.Proofs.YtjngmadmdkkcmaaW.PrintWords Go.Proofs.YtjngmadmdkkcmaaW.PrintLast Go.Proofs.YtjngmadmdkkcmaaW.PrintMore
attribute [local go_sem] max2_int min2_int max_two min_two max_three min_three max_four min_four   -- for this text's walks alone
set_option linter.unusedVariables false
set_option linter.unusedSimpArgs false

/-! ### impl_ResetGuesses: function 35 -/
def impl_ResetGuesses.f (a0_0 : Int) (a0_1 : Int) (a0_2 : Int) (a0_3 : Int) (a0_4 : Int) (l0_5 : List (S28)) (a0_6 : Int) (a1_0 : Int) (a1_1 : Int) : Option (Int × Int × Int × Int × Int × (List (S28)) × Int × Bool) := (impl_copyHost.f a0_0 a0_1 a0_2 a0_3 a0_4 l0_5 a0_6).bind fun bt224 => ((impl_IsValidKeeper.f a0_0 a0_1 a0_2 a0_3 a0_4).bind fun t235 => (if t235 = true then ((impl_progress.f a0_0 a0_1 a0_2 a0_3 a0_4).bind fun t236 => (if t236 < a0_6 then (some (bt224.1, bt224.2.1, bt224.2.2.1, bt224.2.2.2.1, bt224.2.2.2.2.1, bt224.2.2.2.2.2.1, bt224.2.2.2.2.2.2, false)) else (if a0_2 = 1000000 then (some (bt224.1, bt224.2.1, bt224.2.2.1, bt224.2.2.2.1, bt224.2.2.2.2.1, bt224.2.2.2.2.2.1, bt224.2.2.2.2.2.2, false)) else (if a1_0 = a0_0 then ((impl_AreShares.f (([(⟨a1_0, a1_1⟩ : S26)] : List (S26)))).bind fun t240 => (if t240 = true then ((impl_progress.f a1_0 a1_1 (wrap64 (a0_2 + 1)) 0 a0_4).bind fun t241 => (some (a1_0, a1_1, wrap64 (a0_2 + 1), 0, a0_4, bt224.2.2.2.2.2.1, t241, true))) else (some (bt224.1, bt224.2.1, bt224.2.2.1, bt224.2.2.2.1, bt224.2.2.2.2.1, bt224.2.2.2.2.2.1, bt224.2.2.2.2.2.2, false)))) else (some (bt224.1, bt224.2.1, bt224.2.2.1, bt224.2.2.2.1, bt224.2.2.2.2.1, bt224.2.2.2.2.2.1, bt224.2.2.2.2.2.2, false)))))) else (some (bt224.1, bt224.2.1, bt224.2.2.1, bt224.2.2.2.1, bt224.2.2.2.2.1, bt224.2.2.2.2.2.1, bt224.2.2.2.2.2.2, false))))
set_option maxHeartbeats 8000000 in
set_option maxRecDepth 100000 in
theorem impl_ResetGuesses.calls (a0_0 : Int) (a0_1 : Int) (a0_2 : Int) (a0_3 : Int) (a0_4 : Int) (A0_5 : Option Addr) (c0_5 : Nat) (l0_5 : List (S28)) (a0_6 : Int) (a1_0 : Int) (a1_1 : Int) (r1 : Int) (r2 : Int) (r3 : Int) (r4 : Int) (r5 : Int) (r6 : List (S28)) (r7 : Int) (r8 : Bool) (w : World) (hr0_5 : Kd.C k28 w A0_5 l0_5.length l0_5) (hc0_5 : l0_5.length ≤ c0_5) (h : impl_ResetGuesses.f a0_0 a0_1 a0_2 a0_3 a0_4 l0_5 a0_6 a1_0 a1_1 = some (r1, r2, r3, r4, r5, r6, r7, r8)) :
    Calls Try.prog 35 #[.agg #[.int .i64 a0_0, .int .i64 a0_1, .int .i64 a0_2, .int .i64 a0_3, .int .i64 a0_4, .slice A0_5 l0_5.length c0_5, .int .i64 a0_6], .agg #[.int .i64 a1_0, .int .i64 a1_1]] w fun e w' => ∃ v5_ : Value, e = .returned (.tuple #[.agg #[.int .i64 r1, .int .i64 r2, .int .i64 r3, .int .i64 r4, .int .i64 r5, v5_, .int .i64 r7], .bool r8]) ∧ Kd.R k28 28 w' w.heap.size (fun _ => True) v5_ r6 ∧ Below w.heap.size w w' := by
  have hu31 := Try.underlying31
  have hu26 := Try.underlying26
  have hu28 := Try.underlying28
  have HR0_5 := Aside0.mk hr0_5
  have HC0_5 := Aside0.mk hc0_5
  clear hr0_5 hc0_5
  have HB := Aside0.mk (Below.refl w.heap.size w)
  have H : ((impl_copyHost.f a0_0 a0_1 a0_2 a0_3 a0_4 l0_5 a0_6).bind fun bt224 => ((impl_IsValidKeeper.f a0_0 a0_1 a0_2 a0_3 a0_4).bind fun t235 => (if t235 = true then ((impl_progress.f a0_0 a0_1 a0_2 a0_3 a0_4).bind fun t236 => (if t236 < a0_6 then (some (bt224.1, bt224.2.1, bt224.2.2.1, bt224.2.2.2.1, bt224.2.2.2.2.1, bt224.2.2.2.2.2.1, bt224.2.2.2.2.2.2, false)) else (if a0_2 = 1000000 then (some (bt224.1, bt224.2.1, bt224.2.2.1, bt224.2.2.2.1, bt224.2.2.2.2.1, bt224.2.2.2.2.2.1, bt224.2.2.2.2.2.2, false)) else (if a1_0 = a0_0 then ((impl_AreShares.f (([(⟨a1_0, a1_1⟩ : S26)] : List (S26)))).bind fun t240 => (if t240 = true then ((impl_progress.f a1_0 a1_1 (wrap64 (a0_2 + 1)) 0 a0_4).bind fun t241 => (some (a1_0, a1_1, wrap64 (a0_2 + 1), 0, a0_4, bt224.2.2.2.2.2.1, t241, true))) else (some (bt224.1, bt224.2.1, bt224.2.2.1, bt224.2.2.2.1, bt224.2.2.2.2.1, bt224.2.2.2.2.2.1, bt224.2.2.2.2.2.2, false)))) else (some (bt224.1, bt224.2.1, bt224.2.2.1, bt224.2.2.2.1, bt224.2.2.2.2.1, bt224.2.2.2.2.2.1, bt224.2.2.2.2.2.2, false)))))) else (some (bt224.1, bt224.2.1, bt224.2.2.1, bt224.2.2.2.1, bt224.2.2.2.2.1, bt224.2.2.2.2.2.1, bt224.2.2.2.2.2.2, false))))) = some (r1, r2, r3, r4, r5, r6, r7, r8) := h
  clear h
  replace H := Option.bind_eq_some_iff.mp H
  obtain ⟨⟨t224, t225, t226, t227, t228, t229, t232⟩, A30, H⟩ := H
  replace H : ((impl_IsValidKeeper.f a0_0 a0_1 a0_2 a0_3 a0_4).bind fun t235 => (if t235 = true then ((impl_progress.f a0_0 a0_1 a0_2 a0_3 a0_4).bind fun t236 => (if t236 < a0_6 then (some (t224, t225, t226, t227, t228, t229, t232, false)) else (if a0_2 = 1000000 then (some (t224, t225, t226, t227, t228, t229, t232, false)) else (if a1_0 = a0_0 then ((impl_AreShares.f (([(⟨a1_0, a1_1⟩ : S26)] : List (S26)))).bind fun t240 => (if t240 = true then ((impl_progress.f a1_0 a1_1 (wrap64 (a0_2 + 1)) 0 a0_4).bind fun t241 => (some (a1_0, a1_1, wrap64 (a0_2 + 1), 0, a0_4, t229, t241, true))) else (some (t224, t225, t226, t227, t228, t229, t232, false)))) else (some (t224, t225, t226, t227, t228, t229, t232, false)))))) else (some (t224, t225, t226, t227, t228, t229, t232, false)))) = some (r1, r2, r3, r4, r5, r6, r7, r8) := H
  have A3 := Aside0.mk A30
  clear A30
  replace H := Option.bind_eq_some_iff.mp H
  obtain ⟨t235, A40, H⟩ := H
  replace H : (if t235 = true then ((impl_progress.f a0_0 a0_1 a0_2 a0_3 a0_4).bind fun t236 => (if t236 < a0_6 then (some (t224, t225, t226, t227, t228, t229, t232, false)) else (if a0_2 = 1000000 then (some (t224, t225, t226, t227, t228, t229, t232, false)) else (if a1_0 = a0_0 then ((impl_AreShares.f (([(⟨a1_0, a1_1⟩ : S26)] : List (S26)))).bind fun t240 => (if t240 = true then ((impl_progress.f a1_0 a1_1 (wrap64 (a0_2 + 1)) 0 a0_4).bind fun t241 => (some (a1_0, a1_1, wrap64 (a0_2 + 1), 0, a0_4, t229, t241, true))) else (some (t224, t225, t226, t227, t228, t229, t232, false)))) else (some (t224, t225, t226, t227, t228, t229, t232, false)))))) else (some (t224, t225, t226, t227, t228, t229, t232, false))) = some (r1, r2, r3, r4, r5, r6, r7, r8) := H
  have A4 := Aside0.mk A40
  clear A40
  by_cases c5 : t235 = true
  rotate_left
  · replace c5 := Bool.eq_false_iff.mpr c5
    subst c5
    have H1 : (some (t224, t225, t226, t227, t228, t229, t232, false)) = some (r1, r2, r3, r4, r5, r6, r7, r8) := by rw [if_neg (show ¬ (false = true) by decide)] at H; exact H
    clear H
    have H := H1
    clear H1
    simp only [Option.some.injEq, Prod.mk.injEq] at H
    obtain ⟨rfl, rfl, rfl, rfl, rfl, rfl, rfl, rfl⟩ := H
    go_enter Try.func35, Try.ntmps35
    go_wp2_with (first | ((with_reducible refine gate_dst (N := 2) rfl ?_); (try (refine gate_guard (by rfl) ?_; dsimp only)); refine box_event ?hg (N := 2) ?hd (cs := #[.int .i64 a0_0, .int .i64 a0_1, .int .i64 a0_2, .int .i64 a0_3, .int .i64 a0_4, .slice A0_5 l0_5.length c0_5, .int .i64 a0_6]) (t := 31) ?hr ?_; (case hd => rfl); (case hg => rfl); (case hr => first | (go_simp; done) | (go_simp; rfl)); intro gb221 hg wv1 hbox hb; have BK221 := Aside0.mk (hbox); have GE221 := Aside0.mk ((by rw [hg]; exact Nat.le_trans HB.out.size ((Kept.refl w (fun _ => False))).1 : w.heap.size ≤ gb221)); have HG221 := Aside0.mk ((⟨by rw [hg]; exact ((Kept.refl w (fun _ => False))).1, blk_lt hbox⟩ : w.heap.size ≤ gb221 ∧ gb221 < wv1.heap.size)); have HLA := Aside0.mk (((Kept.below (Kept.refl w (fun _ => False)) hb).1 : w.heap.size ≤ wv1.heap.size)); replace HB := Aside0.mk (below_step HB.out hb); clear hb hbox hg) | ((with_reducible refine gate_dst (N := 3) rfl ?_); (try (refine gate_guard (by rfl) ?_; dsimp only)); refine box_event ?hg (N := 3) ?hd (cs := #[.int .i64 a1_0, .int .i64 a1_1]) (t := 26) ?hr ?_; (case hd => rfl); (case hg => rfl); (case hr => first | (go_simp; done) | (go_simp; rfl)); intro gb222 hg wv2 hbox hb; have BK222 := Aside0.mk (hbox); have GE222 := Aside0.mk ((by rw [hg]; exact Nat.le_trans HB.out.size ((Kept.refl wv1 (fun _ => False))).1 : w.heap.size ≤ gb222)); have HG222 := Aside0.mk ((⟨by rw [hg]; exact ((Kept.refl wv1 (fun _ => False))).1, blk_lt hbox⟩ : wv1.heap.size ≤ gb222 ∧ gb222 < wv2.heap.size)); replace BK221 := Aside0.mk (blk_below BK221.out hb); replace HB := Aside0.mk (below_step HB.out hb); replace HLA := Aside0.mk (And.intro HLA.out ((Kept.below (Kept.refl wv1 (fun _ => False)) hb).1 : wv1.heap.size ≤ wv2.heap.size)); clear hb hbox hg) | ((with_reducible refine gate_dst (N := 4) rfl ?_); (try (refine gate_guard (by rfl) ?_; dsimp only)); refine box_event ?hg (N := 4) ?hd (cs := #[.int .i64 0, .int .i64 0, .int .i64 0, .int .i64 0, .int .i64 0, .slice none 0 0, .int .i64 0]) (t := 31) ?hr ?_; (case hd => rfl); (case hg => rfl); (case hr => first | (go_simp; done) | (go_simp; rfl)); intro gb223 hg wv3 hbox hb; have BK223 := Aside0.mk (hbox); have GE223 := Aside0.mk ((by rw [hg]; exact Nat.le_trans HB.out.size ((Kept.refl wv2 (fun _ => False))).1 : w.heap.size ≤ gb223)); have HG223 := Aside0.mk ((⟨by rw [hg]; exact ((Kept.refl wv2 (fun _ => False))).1, blk_lt hbox⟩ : wv2.heap.size ≤ gb223 ∧ gb223 < wv3.heap.size)); replace BK221 := Aside0.mk (blk_below BK221.out hb); replace BK222 := Aside0.mk (blk_below BK222.out hb); replace HB := Aside0.mk (below_step HB.out hb); replace HLA := Aside0.mk (And.intro HLA.out ((Kept.below (Kept.refl wv2 (fun _ => False)) hb).1 : wv2.heap.size ≤ wv3.heap.size)); clear hb hbox hg; obtain ⟨hcz1_0, hcz1_1, hcz1_2, hcz1_3, hcz1_4, hcz1_5, hcz1_6, hcz1_f0, hcz1_f1, hcz1_f2, hcz1_f3, hcz1_f4, hcz1_f5, hcz1_f6⟩ := lk_c7 BK221.out) | ((with_reducible refine gate_callee (f := 61) rfl ?_); refine goesL_ (some 9) rfl rfl Try.func61 (by kernel_rfl) rfl #[.agg #[.int .i64 a0_0, .int .i64 a0_1, .int .i64 a0_2, .int .i64 a0_3, .int .i64 a0_4, .slice A0_5 l0_5.length c0_5, .int .i64 a0_6]] rfl (by (try simp only [List.map_toArray, List.map_cons, List.map_nil]); first | done | rfl | (simp only [List.length_drop, List.length_take]; rfl)) ?_; (with_reducible refine (impl_copyHost.calls a0_0 a0_1 a0_2 a0_3 a0_4 _ _ l0_5 a0_6 t224 t225 t226 t227 t228 t229 t232 _ ?side1 ?side2 A3.out).mono ?_); (case side1 => exact Kd.C_below HR0_5.out (by repeat (first | (with_reducible first | exact HB.out | apply below_alloc | apply pw_below_drewN | apply below_drew1) | exact HB.out))); (case side2 => exact HC0_5.out); rintro e wv4 ⟨vq2_, rfl, ho0, hb⟩; refine ⟨_, rfl, ?_⟩; have hkW := (Kept.refl wv3 (fun _ => False)); have hk2 := Kept.below hkW hb; obtain ⟨Aq2_, cq2_, rfl⟩ := Kd.R_slice ho0; obtain ⟨okq2_, hoo0, hi0⟩ := lk_R ho0 (a := wv3.heap.size) (b := w.heap.size) hkW.1 (Nat.le_trans HB.out.size hkW.1); have HOq2_ := Aside0.mk (hoo0); have HIq2_ := Aside0.mk (hi0); replace BK221 := Aside0.mk (blk_below BK221.out hb); replace BK222 := Aside0.mk (blk_below BK222.out hb); replace BK223 := Aside0.mk (blk_below BK223.out hb); replace HB := Aside0.mk (below_step (by repeat (first | (with_reducible first | exact HB.out | apply below_alloc | apply pw_below_drewN | apply below_drew1) | exact HB.out)) hb); replace HLA := Aside0.mk (And.intro HLA.out (hk2.1 : wv3.heap.size ≤ wv4.heap.size)); (try clear hb); (try clear hkW); (try clear hk2); (try clear hkp); (try clear hoo0); (try clear hi0); (try clear ho0)) | ((with_reducible refine gate_dst (N := 6) rfl ?_); (try (refine gate_guard (by rfl) ?_; dsimp only)); refine box_event ?hg (N := 6) ?hd (cs := #[.int .i64 0, .int .i64 0, .int .i64 0, .int .i64 0, .int .i64 0, .slice none 0 0, .int .i64 0]) (t := 31) ?hr ?_; (case hd => rfl); (case hg => rfl); (case hr => first | (go_simp; done) | (go_simp; rfl)); intro gb233 hg wv5 hbox hb; have BK233 := Aside0.mk (hbox); have GE233 := Aside0.mk ((by rw [hg]; exact Nat.le_trans HB.out.size ((Kept.refl wv4 (fun _ => False))).1 : w.heap.size ≤ gb233)); have HG233 := Aside0.mk ((⟨by rw [hg]; exact ((Kept.refl wv4 (fun _ => False))).1, blk_lt hbox⟩ : wv4.heap.size ≤ gb233 ∧ gb233 < wv5.heap.size)); replace HOq2_ := Aside0.mk (Kd.R_below HOq2_.out hb); replace BK221 := Aside0.mk (blk_below BK221.out hb); replace BK222 := Aside0.mk (blk_below BK222.out hb); replace BK223 := Aside0.mk (blk_below BK223.out hb); replace HB := Aside0.mk (below_step HB.out hb); replace HLA := Aside0.mk (And.intro HLA.out ((Kept.below (Kept.refl wv4 (fun _ => False)) hb).1 : wv4.heap.size ≤ wv5.heap.size)); clear hb hbox hg; obtain ⟨hcz3_0, hcz3_1, hcz3_2, hcz3_3, hcz3_4, hcz3_5, hcz3_6, hcz3_f0, hcz3_f1, hcz3_f2, hcz3_f3, hcz3_f4, hcz3_f5, hcz3_f6⟩ := lk_c7 BK233.out) | ((with_reducible refine gate_store (t := 31) (p := 6) rfl ?_); refine store_event (t := 31) (p := 6) (v := ?vo_lg32) (w1 := (((((((wv5.setCell ⟨gb233, 0, none⟩ (.int .i64 t224)).setCell ⟨gb233, 1, none⟩ (.int .i64 t225)).setCell ⟨gb233, 2, none⟩ (.int .i64 t226)).setCell ⟨gb233, 3, none⟩ (.int .i64 t227)).setCell ⟨gb233, 4, none⟩ (.int .i64 t228)).setCell ⟨gb233, 5, none⟩ (.slice Aq2_ t229.length cq2_)).setCell ⟨gb233, 6, none⟩ (.int .i64 t232))) ?hg ?ho ?hn ?hr ?_; (case ho => rfl); (case hg => rfl); (case hn => rfl); (case hr => first | (go_simp; done) | (go_simp; rfl)); intro wv6 hw; have hk2 := (show Kept wv5 wv6 (fun k_ => k_ = gb233) from by rw [hw]; exact (show Kept wv5 (((((((wv5.setCell ⟨gb233, 0, none⟩ (.int .i64 t224)).setCell ⟨gb233, 1, none⟩ (.int .i64 t225)).setCell ⟨gb233, 2, none⟩ (.int .i64 t226)).setCell ⟨gb233, 3, none⟩ (.int .i64 t227)).setCell ⟨gb233, 4, none⟩ (.int .i64 t228)).setCell ⟨gb233, 5, none⟩ (.slice Aq2_ t229.length cq2_)).setCell ⟨gb233, 6, none⟩ (.int .i64 t232)) (fun k_ => k_ = gb233) from by repeat (first | (with_reducible first | exact Kept.refl _ _ | apply Kept.alloc | apply Kept.drewN | apply Kept.drew) | refine Kept.setCell ?_ (.inl (by first | exact rfl | exact .inl rfl | exact .inr rfl | exact .inr (.inl rfl) | exact .inr (.inr rfl))) _ | exact Kept.refl _ _))); replace HOq2_ := Aside0.mk (Kd.R_kept HOq2_.out hk2 (fun k_ hk_ hs_ => by have i_ := HIq2_.out k_ hk_; have hs2_ : k_ = gb233 := hs_; have g0_ := HG233.out; have z_ := HLA.out; omega)); replace BK221 := Aside0.mk (blk_kept BK221.out hk2 (fun hs_ => by have hs2_ : gb221 = gb233 := hs_; have g_ := HG221.out; have g0_ := HG233.out; have z_ := HLA.out; omega)); replace BK222 := Aside0.mk (blk_kept BK222.out hk2 (fun hs_ => by have hs2_ : gb222 = gb233 := hs_; have g_ := HG222.out; have g0_ := HG233.out; have z_ := HLA.out; omega)); replace BK223 := Aside0.mk (blk_kept BK223.out hk2 (fun hs_ => by have hs2_ : gb223 = gb233 := hs_; have g_ := HG223.out; have g0_ := HG233.out; have z_ := HLA.out; omega)); replace BK233 := Aside0.mk ((show wv6.heap[gb233]? = some (Obj.cells #[.int .i64 t224, .int .i64 t225, .int .i64 t226, .int .i64 t227, .int .i64 t228, .slice Aq2_ t229.length cq2_, .int .i64 t232] 31 (0, 0)) from by rw [hw]; exact (show _ = some (Obj.cells #[.int .i64 t224, .int .i64 t225, .int .i64 t226, .int .i64 t227, .int .i64 t228, .slice Aq2_ t229.length cq2_, .int .i64 t232] 31 (0, 0)) from by (with_reducible repeat (first | refine blk_drewN ?_ _ | refine blk_drew ?_ | refine blk_alloc ?_ _)); refine blk_put (cs := #[.int .i64 t224, .int .i64 t225, .int .i64 t226, .int .i64 t227, .int .i64 t228, .slice Aq2_ t229.length cq2_, .int .i64 0]) ?_ 6 _ rfl; (with_reducible repeat (first | refine blk_drewN ?_ _ | refine blk_drew ?_ | refine blk_alloc ?_ _)); refine blk_put (cs := #[.int .i64 t224, .int .i64 t225, .int .i64 t226, .int .i64 t227, .int .i64 t228, .slice none 0 0, .int .i64 0]) ?_ 5 _ rfl; (with_reducible repeat (first | refine blk_drewN ?_ _ | refine blk_drew ?_ | refine blk_alloc ?_ _)); refine blk_put (cs := #[.int .i64 t224, .int .i64 t225, .int .i64 t226, .int .i64 t227, .int .i64 0, .slice none 0 0, .int .i64 0]) ?_ 4 _ rfl; (with_reducible repeat (first | refine blk_drewN ?_ _ | refine blk_drew ?_ | refine blk_alloc ?_ _)); refine blk_put (cs := #[.int .i64 t224, .int .i64 t225, .int .i64 t226, .int .i64 0, .int .i64 0, .slice none 0 0, .int .i64 0]) ?_ 3 _ rfl; (with_reducible repeat (first | refine blk_drewN ?_ _ | refine blk_drew ?_ | refine blk_alloc ?_ _)); refine blk_put (cs := #[.int .i64 t224, .int .i64 t225, .int .i64 0, .int .i64 0, .int .i64 0, .slice none 0 0, .int .i64 0]) ?_ 2 _ rfl; (with_reducible repeat (first | refine blk_drewN ?_ _ | refine blk_drew ?_ | refine blk_alloc ?_ _)); refine blk_put (cs := #[.int .i64 t224, .int .i64 0, .int .i64 0, .int .i64 0, .int .i64 0, .slice none 0 0, .int .i64 0]) ?_ 1 _ rfl; (with_reducible repeat (first | refine blk_drewN ?_ _ | refine blk_drew ?_ | refine blk_alloc ?_ _)); refine blk_put (cs := #[.int .i64 0, .int .i64 0, .int .i64 0, .int .i64 0, .int .i64 0, .slice none 0 0, .int .i64 0]) ?_ 0 _ rfl; (with_reducible repeat (first | refine blk_drewN ?_ _ | refine blk_drew ?_ | refine blk_alloc ?_ _)); exact BK233.out))); replace HB := Aside0.mk ((show Below w.heap.size w wv6 from by rw [hw]; exact by repeat (first | (with_reducible first | exact HB.out | apply below_alloc | apply pw_below_drewN | apply below_drew1 | refine below_set ?_ GE233.out) | exact HB.out))); replace HLA := Aside0.mk (And.intro HLA.out (hk2.1 : wv5.heap.size ≤ wv6.heap.size)); clear hw hk2; obtain ⟨hcz4_0, hcz4_1, hcz4_2, hcz4_3, hcz4_4, hcz4_5, hcz4_6, hcz4_f0, hcz4_f1, hcz4_f2, hcz4_f3, hcz4_f4, hcz4_f5, hcz4_f6⟩ := lk_c7 BK221.out) | ((with_reducible refine gate_dst (N := 7) rfl ?_); (try (refine gate_guard (by rfl) ?_; dsimp only)); refine box_event ?hg (N := 7) ?hd (cs := #[.int .i64 0, .int .i64 0, .int .i64 0, .int .i64 0, .int .i64 0]) (t := 28) ?hr ?_; (case hd => rfl); (case hg => rfl); (case hr => first | (go_simp; done) | (go_simp; rfl)); intro gb234 hg wv7 hbox hb; have BK234 := Aside0.mk (hbox); have GE234 := Aside0.mk ((by rw [hg]; exact Nat.le_trans HB.out.size ((Kept.refl wv6 (fun _ => False))).1 : w.heap.size ≤ gb234)); have HG234 := Aside0.mk ((⟨by rw [hg]; exact ((Kept.refl wv6 (fun _ => False))).1, blk_lt hbox⟩ : wv6.heap.size ≤ gb234 ∧ gb234 < wv7.heap.size)); replace HOq2_ := Aside0.mk (Kd.R_below HOq2_.out hb); replace BK221 := Aside0.mk (blk_below BK221.out hb); replace BK222 := Aside0.mk (blk_below BK222.out hb); replace BK223 := Aside0.mk (blk_below BK223.out hb); replace BK233 := Aside0.mk (blk_below BK233.out hb); replace HB := Aside0.mk (below_step HB.out hb); replace HLA := Aside0.mk (And.intro HLA.out ((Kept.below (Kept.refl wv6 (fun _ => False)) hb).1 : wv6.heap.size ≤ wv7.heap.size)); clear hb hbox hg; obtain ⟨hcz5_0, hcz5_1, hcz5_2, hcz5_3, hcz5_4, hcz5_f0, hcz5_f1, hcz5_f2, hcz5_f3, hcz5_f4⟩ := lk_c5 BK234.out) | ((with_reducible refine gate_store (t := 28) (p := 7) rfl ?_); refine store_event (t := 28) (p := 7) (v := ?vo_lg33) (w1 := (((((wv7.setCell ⟨gb234, 0, none⟩ (.int .i64 a0_0)).setCell ⟨gb234, 1, none⟩ (.int .i64 a0_1)).setCell ⟨gb234, 2, none⟩ (.int .i64 a0_2)).setCell ⟨gb234, 3, none⟩ (.int .i64 a0_3)).setCell ⟨gb234, 4, none⟩ (.int .i64 a0_4))) ?hg ?ho ?hn ?hr ?_; (case ho => rfl); (case hg => rfl); (case hn => rfl); (case hr => first | (go_simp; done) | (go_simp; rfl)); intro wv8 hw; have hk2 := (show Kept wv7 wv8 (fun k_ => k_ = gb234) from by rw [hw]; exact (show Kept wv7 (((((wv7.setCell ⟨gb234, 0, none⟩ (.int .i64 a0_0)).setCell ⟨gb234, 1, none⟩ (.int .i64 a0_1)).setCell ⟨gb234, 2, none⟩ (.int .i64 a0_2)).setCell ⟨gb234, 3, none⟩ (.int .i64 a0_3)).setCell ⟨gb234, 4, none⟩ (.int .i64 a0_4)) (fun k_ => k_ = gb234) from by repeat (first | (with_reducible first | exact Kept.refl _ _ | apply Kept.alloc | apply Kept.drewN | apply Kept.drew) | refine Kept.setCell ?_ (.inl (by first | exact rfl | exact .inl rfl | exact .inr rfl | exact .inr (.inl rfl) | exact .inr (.inr rfl))) _ | exact Kept.refl _ _))); replace HOq2_ := Aside0.mk (Kd.R_kept HOq2_.out hk2 (fun k_ hk_ hs_ => by have i_ := HIq2_.out k_ hk_; have hs2_ : k_ = gb234 := hs_; have g0_ := HG234.out; have z_ := HLA.out; omega)); replace BK221 := Aside0.mk (blk_kept BK221.out hk2 (fun hs_ => by have hs2_ : gb221 = gb234 := hs_; have g_ := HG221.out; have g0_ := HG234.out; have z_ := HLA.out; omega)); replace BK222 := Aside0.mk (blk_kept BK222.out hk2 (fun hs_ => by have hs2_ : gb222 = gb234 := hs_; have g_ := HG222.out; have g0_ := HG234.out; have z_ := HLA.out; omega)); replace BK223 := Aside0.mk (blk_kept BK223.out hk2 (fun hs_ => by have hs2_ : gb223 = gb234 := hs_; have g_ := HG223.out; have g0_ := HG234.out; have z_ := HLA.out; omega)); replace BK233 := Aside0.mk (blk_kept BK233.out hk2 (fun hs_ => by have hs2_ : gb233 = gb234 := hs_; have g_ := HG233.out; have g0_ := HG234.out; have z_ := HLA.out; omega)); replace BK234 := Aside0.mk ((show wv8.heap[gb234]? = some (Obj.cells #[.int .i64 a0_0, .int .i64 a0_1, .int .i64 a0_2, .int .i64 a0_3, .int .i64 a0_4] 28 (0, 0)) from by rw [hw]; exact (show _ = some (Obj.cells #[.int .i64 a0_0, .int .i64 a0_1, .int .i64 a0_2, .int .i64 a0_3, .int .i64 a0_4] 28 (0, 0)) from by (with_reducible repeat (first | refine blk_drewN ?_ _ | refine blk_drew ?_ | refine blk_alloc ?_ _)); refine blk_put (cs := #[.int .i64 a0_0, .int .i64 a0_1, .int .i64 a0_2, .int .i64 a0_3, .int .i64 0]) ?_ 4 _ rfl; (with_reducible repeat (first | refine blk_drewN ?_ _ | refine blk_drew ?_ | refine blk_alloc ?_ _)); refine blk_put (cs := #[.int .i64 a0_0, .int .i64 a0_1, .int .i64 a0_2, .int .i64 0, .int .i64 0]) ?_ 3 _ rfl; (with_reducible repeat (first | refine blk_drewN ?_ _ | refine blk_drew ?_ | refine blk_alloc ?_ _)); refine blk_put (cs := #[.int .i64 a0_0, .int .i64 a0_1, .int .i64 0, .int .i64 0, .int .i64 0]) ?_ 2 _ rfl; (with_reducible repeat (first | refine blk_drewN ?_ _ | refine blk_drew ?_ | refine blk_alloc ?_ _)); refine blk_put (cs := #[.int .i64 a0_0, .int .i64 0, .int .i64 0, .int .i64 0, .int .i64 0]) ?_ 1 _ rfl; (with_reducible repeat (first | refine blk_drewN ?_ _ | refine blk_drew ?_ | refine blk_alloc ?_ _)); refine blk_put (cs := #[.int .i64 0, .int .i64 0, .int .i64 0, .int .i64 0, .int .i64 0]) ?_ 0 _ rfl; (with_reducible repeat (first | refine blk_drewN ?_ _ | refine blk_drew ?_ | refine blk_alloc ?_ _)); exact BK234.out))); replace HB := Aside0.mk ((show Below w.heap.size w wv8 from by rw [hw]; exact by repeat (first | (with_reducible first | exact HB.out | apply below_alloc | apply pw_below_drewN | apply below_drew1 | refine below_set ?_ GE234.out) | exact HB.out))); replace HLA := Aside0.mk (And.intro HLA.out (hk2.1 : wv7.heap.size ≤ wv8.heap.size)); clear hw hk2))
    replace HOq2_ := Aside0.mk (Kd.R_kept HOq2_.out (show Kept wv8 wv8.drew (fun k_ => False) from by repeat (first | (with_reducible first | exact Kept.refl _ _ | apply Kept.alloc | apply Kept.drewN | apply Kept.drew) | exact Kept.refl _ _)) (fun _ _ hs_ => hs_.elim))
    replace BK221 := Aside0.mk ((blk_kept BK221.out (show Kept wv8 wv8.drew (fun k_ => False) from by repeat (first | (with_reducible first | exact Kept.refl _ _ | apply Kept.alloc | apply Kept.drewN | apply Kept.drew) | exact Kept.refl _ _)) (fun hs_ => hs_.elim)))
    replace BK222 := Aside0.mk ((blk_kept BK222.out (show Kept wv8 wv8.drew (fun k_ => False) from by repeat (first | (with_reducible first | exact Kept.refl _ _ | apply Kept.alloc | apply Kept.drewN | apply Kept.drew) | exact Kept.refl _ _)) (fun hs_ => hs_.elim)))
    replace BK223 := Aside0.mk ((blk_kept BK223.out (show Kept wv8 wv8.drew (fun k_ => False) from by repeat (first | (with_reducible first | exact Kept.refl _ _ | apply Kept.alloc | apply Kept.drewN | apply Kept.drew) | exact Kept.refl _ _)) (fun hs_ => hs_.elim)))
    replace BK233 := Aside0.mk ((blk_kept BK233.out (show Kept wv8 wv8.drew (fun k_ => False) from by repeat (first | (with_reducible first | exact Kept.refl _ _ | apply Kept.alloc | apply Kept.drewN | apply Kept.drew) | exact Kept.refl _ _)) (fun hs_ => hs_.elim)))
    replace BK234 := Aside0.mk ((blk_kept BK234.out (show Kept wv8 wv8.drew (fun k_ => False) from by repeat (first | (with_reducible first | exact Kept.refl _ _ | apply Kept.alloc | apply Kept.drewN | apply Kept.drew) | exact Kept.refl _ _)) (fun hs_ => hs_.elim)))
    replace HB := Aside0.mk ((show Below w.heap.size w (wv8.drew) from by repeat (first | (with_reducible first | exact HB.out | apply below_alloc | apply pw_below_drewN | apply below_drew1) | exact HB.out)))
    replace HLA := Aside0.mk (And.intro HLA.out ((show Kept wv8 wv8.drew (fun k_ => False) from by repeat (first | (with_reducible first | exact Kept.refl _ _ | apply Kept.alloc | apply Kept.drewN | apply Kept.drew) | exact Kept.refl _ _)).1 : wv8.heap.size ≤ (wv8.drew).heap.size))
    refine start_ (n := 29) (S := fun w' => w'.cell? ⟨gb234, 0, none⟩ = some (.int .i64 a0_0) ∧ w'.cell? ⟨gb234, 1, none⟩ = some (.int .i64 a0_1) ∧ w'.cell? ⟨gb234, 2, none⟩ = some (.int .i64 a0_2) ∧ w'.cell? ⟨gb234, 3, none⟩ = some (.int .i64 a0_3) ∧ w'.cell? ⟨gb234, 4, none⟩ = some (.int .i64 a0_4)) (ds := []) #[false, false, false, false, false, false, false, false, false, false, false, false, false, false, false, false, false, false, false, false, false, false, false, false, false, false, false, false, false] (by kernel_rfl) rfl rfl (lk_e5 BK234.out) (fun hHeld => ?_)
    generalize wv8.drew = wv9 at HOq2_ BK221 BK222 BK223 BK233 BK234 HB HLA hHeld ⊢
    refine take_ (i := 0) (N := some 12) (v := ?_) (a' := ?_) #[true, false, false, false, false, false, false, false, false, false, false, false, false, false, false, false, false, false, false, false, false, false, false, false, false, false, false, false, false] rfl rfl (by kernel_rfl) (fun _ _ _ h => h) (Or.inl ⟨by rfl, ?_⟩) hHeld ?_ ?_
    rotate_left
    · rintro w' ⟨s0, s1, s2, s3, s4⟩
      go_simp
      with_reducible rfl
    rotate_left
    · simp only [Act.put, List.setIfInBounds_toArray, List.set_cons_zero, List.set_cons_succ, i64_w, i32_w]
      rfl
    refine one_ (i := 1) (N := some 13) #[true, true, false, false, false, false, false, false, false, false, false, false, false, false, false, false, false, false, false, false, false, false, false, false, false, false, false, false, false] rfl rfl (by kernel_rfl) (by decide) (fun K hK => ?_)
    refine goes_ Try.func22 (by kernel_rfl) rfl #[.agg #[.int .i64 a0_0, .int .i64 a0_1, .int .i64 a0_2, .int .i64 a0_3, .int .i64 a0_4]] (by rfl) rfl rfl (by (try simp only [List.map_toArray, List.map_cons, List.map_nil]); first | done | rfl | (simp only [List.length_drop, List.length_take]; rfl)) ?_
    (with_reducible refine (impl_IsValidKeeper.calls a0_0 a0_1 a0_2 a0_3 a0_4 false _  A4.out).mono ?_)
    rintro e wv10 ⟨rfl, hb⟩
    refine ⟨_, rfl, ?_⟩
    have hkW := (Kept.refl wv9 (fun _ => False))
    have hk2 := Kept.below hkW hb
    replace HOq2_ := Aside0.mk (Kd.R_below HOq2_.out hb)
    replace BK221 := Aside0.mk (blk_below BK221.out hb)
    replace BK222 := Aside0.mk (blk_below BK222.out hb)
    replace BK223 := Aside0.mk (blk_below BK223.out hb)
    replace BK233 := Aside0.mk (blk_below BK233.out hb)
    replace BK234 := Aside0.mk (blk_below BK234.out hb)
    replace HB := Aside0.mk (below_step (by repeat (first | (with_reducible first | exact HB.out | apply below_alloc | apply pw_below_drewN | apply below_drew1) | exact HB.out)) hb)
    replace HLA := Aside0.mk (And.intro HLA.out (hk2.1 : wv9.heap.size ≤ wv10.heap.size))
    (try clear hb)
    (try clear hkW)
    (try clear hk2)
    (try clear hkp)
    refine hK.out _ _ (lk_e5 BK234.out) (fun hHeld => ?_)
    clear hK K
    refine norm_ (a' := ?_) ?_ ?_
    rotate_left
    · show Act.put _ (some 13) _ = _
      simp only [Act.put, List.setIfInBounds_toArray, List.set_cons_zero, List.set_cons_succ, i64_w, i32_w]
      rfl
    refine pure_ (i := 2) (N := some 14) (v := ?_) (a' := ?_) #[true, true, true, false, false, false, false, false, false, false, false, false, false, false, false, false, false, false, false, false, false, false, false, false, false, false, false, false, false] rfl rfl (by kernel_rfl) (fun _ _ _ h => h) (Or.inl ⟨by rfl, ?_⟩) ?_ ?_
    rotate_left
    · intro w'
      go_simp
      with_reducible rfl
    rotate_left
    · simp only [Act.put, List.setIfInBounds_toArray, List.set_cons_zero, List.set_cons_succ, i64_w, i32_w]
      rfl
    refine pure_ (i := 3) (N := some 15) (v := ?_) (a' := ?_) #[true, true, true, true, false, false, false, false, false, false, false, false, false, false, false, false, false, false, false, false, false, false, false, false, false, false, false, false, false] rfl rfl (by kernel_rfl) (fun _ _ _ h => h) (Or.inl ⟨by rfl, ?_⟩) ?_ ?_
    rotate_left
    · intro w'
      go_simp
      with_reducible rfl
    rotate_left
    · simp only [Act.put, List.setIfInBounds_toArray, List.set_cons_zero, List.set_cons_succ, i64_w, i32_w]
      rfl
    refine pure_ (i := 4) (N := some 16) (v := undef) (a' := ?_) #[true, true, true, true, true, false, false, false, false, false, false, false, false, false, false, false, false, false, false, false, false, false, false, false, false, false, false, false, false] rfl rfl (by kernel_rfl) (fun _ _ _ h => h) (Or.inr ⟨by rfl, rfl⟩) ?_ ?_
    rotate_left
    · simp only [Act.put, List.setIfInBounds_toArray, List.set_cons_zero, List.set_cons_succ, i64_w, i32_w]
      rfl
    refine pure_ (i := 5) (N := some 17) (v := undef) (a' := ?_) #[true, true, true, true, true, true, false, false, false, false, false, false, false, false, false, false, false, false, false, false, false, false, false, false, false, false, false, false, false] rfl rfl (by kernel_rfl) (fun _ _ _ h => h) (Or.inr ⟨by rfl, rfl⟩) ?_ ?_
    rotate_left
    · simp only [Act.put, List.setIfInBounds_toArray, List.set_cons_zero, List.set_cons_succ, i64_w, i32_w]
      rfl
    refine pure_ (i := 6) (N := some 18) (v := undef) (a' := ?_) #[true, true, true, true, true, true, true, false, false, false, false, false, false, false, false, false, false, false, false, false, false, false, false, false, false, false, false, false, false] rfl rfl (by kernel_rfl) (fun _ _ _ h => h) (Or.inr ⟨by rfl, rfl⟩) ?_ ?_
    rotate_left
    · simp only [Act.put, List.setIfInBounds_toArray, List.set_cons_zero, List.set_cons_succ, i64_w, i32_w]
      rfl
    refine pure_ (i := 7) (N := some 19) (v := undef) (a' := ?_) #[true, true, true, true, true, true, true, true, false, false, false, false, false, false, false, false, false, false, false, false, false, false, false, false, false, false, false, false, false] rfl rfl (by kernel_rfl) (fun _ _ _ h => h) (Or.inr ⟨by rfl, rfl⟩) ?_ ?_
    rotate_left
    · simp only [Act.put, List.setIfInBounds_toArray, List.set_cons_zero, List.set_cons_succ, i64_w, i32_w]
      rfl
    refine pure_ (i := 8) (N := some 20) (v := undef) (a' := ?_) #[true, true, true, true, true, true, true, true, true, false, false, false, false, false, false, false, false, false, false, false, false, false, false, false, false, false, false, false, false] rfl rfl (by kernel_rfl) (fun _ _ _ h => h) (Or.inr ⟨by rfl, rfl⟩) ?_ ?_
    rotate_left
    · simp only [Act.put, List.setIfInBounds_toArray, List.set_cons_zero, List.set_cons_succ, i64_w, i32_w]
      rfl
    refine pure_ (i := 9) (N := some 21) (v := ?_) (a' := ?_) #[true, true, true, true, true, true, true, true, true, true, false, false, false, false, false, false, false, false, false, false, false, false, false, false, false, false, false, false, false] rfl rfl (by kernel_rfl) (fun _ _ _ h => h) (Or.inl ⟨by rfl, ?_⟩) ?_ ?_
    rotate_left
    · intro w'
      go_simp
      with_reducible rfl
    rotate_left
    · simp only [Act.put, List.setIfInBounds_toArray, List.set_cons_zero, List.set_cons_succ, i64_w, i32_w]
      rfl
    refine pure_ (i := 10) (N := some 22) (v := ?_) (a' := ?_) #[true, true, true, true, true, true, true, true, true, true, true, false, false, false, false, false, false, false, false, false, false, false, false, false, false, false, false, false, false] rfl rfl (by kernel_rfl) (fun _ _ _ h => h) (Or.inl ⟨by rfl, ?_⟩) ?_ ?_
    rotate_left
    · intro w'
      go_simp
      with_reducible rfl
    rotate_left
    · simp only [Act.put, List.setIfInBounds_toArray, List.set_cons_zero, List.set_cons_succ, i64_w, i32_w]
      rfl
    refine pure_ (i := 11) (N := some 23) (v := undef) (a' := ?_) #[true, true, true, true, true, true, true, true, true, true, true, true, false, false, false, false, false, false, false, false, false, false, false, false, false, false, false, false, false] rfl rfl (by kernel_rfl) (fun _ _ _ h => h) (Or.inr ⟨by rfl, rfl⟩) ?_ ?_
    rotate_left
    · simp only [Act.put, List.setIfInBounds_toArray, List.set_cons_zero, List.set_cons_succ, i64_w, i32_w]
      rfl
    refine pure_ (i := 12) (N := some 24) (v := undef) (a' := ?_) #[true, true, true, true, true, true, true, true, true, true, true, true, true, false, false, false, false, false, false, false, false, false, false, false, false, false, false, false, false] rfl rfl (by kernel_rfl) (fun _ _ _ h => h) (Or.inr ⟨by rfl, rfl⟩) ?_ ?_
    rotate_left
    · simp only [Act.put, List.setIfInBounds_toArray, List.set_cons_zero, List.set_cons_succ, i64_w, i32_w]
      rfl
    refine pure_ (i := 13) (N := some 25) (v := undef) (a' := ?_) #[true, true, true, true, true, true, true, true, true, true, true, true, true, true, false, false, false, false, false, false, false, false, false, false, false, false, false, false, false] rfl rfl (by kernel_rfl) (fun _ _ _ h => h) (Or.inr ⟨by rfl, rfl⟩) ?_ ?_
    rotate_left
    · simp only [Act.put, List.setIfInBounds_toArray, List.set_cons_zero, List.set_cons_succ, i64_w, i32_w]
      rfl
    refine pure_ (i := 14) (N := some 26) (v := ?_) (a' := ?_) #[true, true, true, true, true, true, true, true, true, true, true, true, true, true, true, false, false, false, false, false, false, false, false, false, false, false, false, false, false] rfl rfl (by kernel_rfl) (fun _ _ _ h => h) (Or.inl ⟨by rfl, ?_⟩) ?_ ?_
    rotate_left
    · intro w'
      go_simp
      with_reducible rfl
    rotate_left
    · simp only [Act.put, List.setIfInBounds_toArray, List.set_cons_zero, List.set_cons_succ, i64_w, i32_w]
      rfl
    refine pure_ (i := 15) (N := some 27) (v := ?_) (a' := ?_) #[true, true, true, true, true, true, true, true, true, true, true, true, true, true, true, true, false, false, false, false, false, false, false, false, false, false, false, false, false] rfl rfl (by kernel_rfl) (fun _ _ _ h => h) (Or.inl ⟨by rfl, ?_⟩) ?_ ?_
    rotate_left
    · intro w'
      go_simp
      with_reducible rfl
    rotate_left
    · simp only [Act.put, List.setIfInBounds_toArray, List.set_cons_zero, List.set_cons_succ, i64_w, i32_w]
      rfl
    refine pure_ (i := 16) (N := some 28) (v := undef) (a' := ?_) #[true, true, true, true, true, true, true, true, true, true, true, true, true, true, true, true, true, false, false, false, false, false, false, false, false, false, false, false, false] rfl rfl (by kernel_rfl) (fun _ _ _ h => h) (Or.inr ⟨by rfl, rfl⟩) ?_ ?_
    rotate_left
    · simp only [Act.put, List.setIfInBounds_toArray, List.set_cons_zero, List.set_cons_succ, i64_w, i32_w]
      rfl
    refine pure_ (i := 17) (N := some 29) (v := undef) (a' := ?_) #[true, true, true, true, true, true, true, true, true, true, true, true, true, true, true, true, true, true, false, false, false, false, false, false, false, false, false, false, false] rfl rfl (by kernel_rfl) (fun _ _ _ h => h) (Or.inr ⟨by rfl, rfl⟩) ?_ ?_
    rotate_left
    · simp only [Act.put, List.setIfInBounds_toArray, List.set_cons_zero, List.set_cons_succ, i64_w, i32_w]
      rfl
    refine pure_ (i := 18) (N := some 30) (v := undef) (a' := ?_) #[true, true, true, true, true, true, true, true, true, true, true, true, true, true, true, true, true, true, true, false, false, false, false, false, false, false, false, false, false] rfl rfl (by kernel_rfl) (fun _ _ _ h => h) (Or.inr ⟨by rfl, rfl⟩) ?_ ?_
    rotate_left
    · simp only [Act.put, List.setIfInBounds_toArray, List.set_cons_zero, List.set_cons_succ, i64_w, i32_w]
      rfl
    refine pure_ (i := 19) (N := some 31) (v := undef) (a' := ?_) #[true, true, true, true, true, true, true, true, true, true, true, true, true, true, true, true, true, true, true, true, false, false, false, false, false, false, false, false, false] rfl rfl (by kernel_rfl) (fun _ _ _ h => h) (Or.inr ⟨by rfl, rfl⟩) ?_ ?_
    rotate_left
    · simp only [Act.put, List.setIfInBounds_toArray, List.set_cons_zero, List.set_cons_succ, i64_w, i32_w]
      rfl
    refine pure_ (i := 20) (N := some 32) (v := undef) (a' := ?_) #[true, true, true, true, true, true, true, true, true, true, true, true, true, true, true, true, true, true, true, true, true, false, false, false, false, false, false, false, false] rfl rfl (by kernel_rfl) (fun _ _ _ h => h) (Or.inr ⟨by rfl, rfl⟩) ?_ ?_
    rotate_left
    · simp only [Act.put, List.setIfInBounds_toArray, List.set_cons_zero, List.set_cons_succ, i64_w, i32_w]
      rfl
    refine pure_ (i := 21) (N := some 33) (v := undef) (a' := ?_) #[true, true, true, true, true, true, true, true, true, true, true, true, true, true, true, true, true, true, true, true, true, true, false, false, false, false, false, false, false] rfl rfl (by kernel_rfl) (fun _ _ _ h => h) (Or.inr ⟨by rfl, rfl⟩) ?_ ?_
    rotate_left
    · simp only [Act.put, List.setIfInBounds_toArray, List.set_cons_zero, List.set_cons_succ, i64_w, i32_w]
      rfl
    refine pure_ (i := 22) (N := some 34) (v := ?_) (a' := ?_) #[true, true, true, true, true, true, true, true, true, true, true, true, true, true, true, true, true, true, true, true, true, true, true, false, false, false, false, false, false] rfl rfl (by kernel_rfl) (fun _ _ _ h => h) (Or.inl ⟨by rfl, ?_⟩) ?_ ?_
    rotate_left
    · intro w'
      go_simp
      with_reducible rfl
    rotate_left
    · simp only [Act.put, List.setIfInBounds_toArray, List.set_cons_zero, List.set_cons_succ, i64_w, i32_w]
      rfl
    refine pure_ (i := 23) (N := some 35) (v := ?_) (a' := ?_) #[true, true, true, true, true, true, true, true, true, true, true, true, true, true, true, true, true, true, true, true, true, true, true, true, false, false, false, false, false] rfl rfl (by kernel_rfl) (fun _ _ _ h => h) (Or.inl ⟨by rfl, ?_⟩) ?_ ?_
    rotate_left
    · intro w'
      go_simp
      with_reducible rfl
    rotate_left
    · simp only [Act.put, List.setIfInBounds_toArray, List.set_cons_zero, List.set_cons_succ, i64_w, i32_w]
      rfl
    refine pure_ (i := 24) (N := some 36) (v := undef) (a' := ?_) #[true, true, true, true, true, true, true, true, true, true, true, true, true, true, true, true, true, true, true, true, true, true, true, true, true, false, false, false, false] rfl rfl (by kernel_rfl) (fun _ _ _ h => h) (Or.inr ⟨by rfl, rfl⟩) ?_ ?_
    rotate_left
    · simp only [Act.put, List.setIfInBounds_toArray, List.set_cons_zero, List.set_cons_succ, i64_w, i32_w]
      rfl
    refine pure_ (i := 25) (N := some 37) (v := undef) (a' := ?_) #[true, true, true, true, true, true, true, true, true, true, true, true, true, true, true, true, true, true, true, true, true, true, true, true, true, true, false, false, false] rfl rfl (by kernel_rfl) (fun _ _ _ h => h) (Or.inr ⟨by rfl, rfl⟩) ?_ ?_
    rotate_left
    · simp only [Act.put, List.setIfInBounds_toArray, List.set_cons_zero, List.set_cons_succ, i64_w, i32_w]
      rfl
    refine pure_ (i := 26) (N := some 38) (v := undef) (a' := ?_) #[true, true, true, true, true, true, true, true, true, true, true, true, true, true, true, true, true, true, true, true, true, true, true, true, true, true, true, false, false] rfl rfl (by kernel_rfl) (fun _ _ _ h => h) (Or.inr ⟨by rfl, rfl⟩) ?_ ?_
    rotate_left
    · simp only [Act.put, List.setIfInBounds_toArray, List.set_cons_zero, List.set_cons_succ, i64_w, i32_w]
      rfl
    refine pure_ (i := 27) (N := some 39) (v := undef) (a' := ?_) #[true, true, true, true, true, true, true, true, true, true, true, true, true, true, true, true, true, true, true, true, true, true, true, true, true, true, true, true, false] rfl rfl (by kernel_rfl) (fun _ _ _ h => h) (Or.inr ⟨by rfl, rfl⟩) ?_ ?_
    rotate_left
    · simp only [Act.put, List.setIfInBounds_toArray, List.set_cons_zero, List.set_cons_succ, i64_w, i32_w]
      rfl
    refine pure_ (i := 28) (N := some 40) (v := ?_) (a' := ?_) #[true, true, true, true, true, true, true, true, true, true, true, true, true, true, true, true, true, true, true, true, true, true, true, true, true, true, true, true, true] rfl rfl (by kernel_rfl) (fun _ _ _ h => h) (Or.inl ⟨by rfl, ?_⟩) ?_ ?_
    rotate_left
    · intro w'
      go_simp
      with_reducible rfl
    rotate_left
    · simp only [Act.put, List.setIfInBounds_toArray, List.set_cons_zero, List.set_cons_succ, i64_w, i32_w]
      rfl
    refine done_ (by kernel_rfl) ?_
    (try clear hHeld)
    obtain ⟨hcz6_0, hcz6_1, hcz6_2, hcz6_3, hcz6_4, hcz6_5, hcz6_6, hcz6_f0, hcz6_f1, hcz6_f2, hcz6_f3, hcz6_f4, hcz6_f5, hcz6_f6⟩ := lk_c7 BK233.out
    obtain ⟨hcz7_0, hcz7_1, hcz7_2, hcz7_3, hcz7_4, hcz7_5, hcz7_6, hcz7_f0, hcz7_f1, hcz7_f2, hcz7_f3, hcz7_f4, hcz7_f5, hcz7_f6⟩ := lk_c7 BK223.out
    have hnb8_ : gb233 ≠ gb223 := (by have g1_ := HG233.out; have g2_ := HG223.out; have z_ := HLA.out; omega)
    have hnb9_ : gb223 ≠ gb233 := (by have g1_ := HG223.out; have g2_ := HG233.out; have z_ := HLA.out; omega)
    go_wp2_with (first | ((with_reducible refine gate_store (t := 31) (p := 4) rfl ?_); refine store_event (t := 31) (p := 4) (v := ?vo_lg34) (w1 := (((((((wv10.setCell ⟨gb223, 0, none⟩ (.int .i64 t224)).setCell ⟨gb223, 1, none⟩ (.int .i64 t225)).setCell ⟨gb223, 2, none⟩ (.int .i64 t226)).setCell ⟨gb223, 3, none⟩ (.int .i64 t227)).setCell ⟨gb223, 4, none⟩ (.int .i64 t228)).setCell ⟨gb223, 5, none⟩ (.slice Aq2_ t229.length cq2_)).setCell ⟨gb223, 6, none⟩ (.int .i64 t232))) ?hg ?ho ?hn ?hr ?_; (case ho => rfl); (case hg => rfl); (case hn => rfl); (case hr => first | (go_simp; done) | (go_simp; rfl)); intro wv11 hw; have hk2 := (show Kept wv10 wv11 (fun k_ => k_ = gb223) from by rw [hw]; exact (show Kept wv10 (((((((wv10.setCell ⟨gb223, 0, none⟩ (.int .i64 t224)).setCell ⟨gb223, 1, none⟩ (.int .i64 t225)).setCell ⟨gb223, 2, none⟩ (.int .i64 t226)).setCell ⟨gb223, 3, none⟩ (.int .i64 t227)).setCell ⟨gb223, 4, none⟩ (.int .i64 t228)).setCell ⟨gb223, 5, none⟩ (.slice Aq2_ t229.length cq2_)).setCell ⟨gb223, 6, none⟩ (.int .i64 t232)) (fun k_ => k_ = gb223) from by repeat (first | (with_reducible first | exact Kept.refl _ _ | apply Kept.alloc | apply Kept.drewN | apply Kept.drew) | refine Kept.setCell ?_ (.inl (by first | exact rfl | exact .inl rfl | exact .inr rfl | exact .inr (.inl rfl) | exact .inr (.inr rfl))) _ | exact Kept.refl _ _))); replace HOq2_ := Aside0.mk (Kd.R_kept HOq2_.out hk2 (fun k_ hk_ hs_ => by have i_ := HIq2_.out k_ hk_; have hs2_ : k_ = gb223 := hs_; have g0_ := HG223.out; have z_ := HLA.out; omega)); replace BK221 := Aside0.mk (blk_kept BK221.out hk2 (fun hs_ => by have hs2_ : gb221 = gb223 := hs_; have g_ := HG221.out; have g0_ := HG223.out; have z_ := HLA.out; omega)); replace BK222 := Aside0.mk (blk_kept BK222.out hk2 (fun hs_ => by have hs2_ : gb222 = gb223 := hs_; have g_ := HG222.out; have g0_ := HG223.out; have z_ := HLA.out; omega)); replace BK223 := Aside0.mk ((show wv11.heap[gb223]? = some (Obj.cells #[.int .i64 t224, .int .i64 t225, .int .i64 t226, .int .i64 t227, .int .i64 t228, .slice Aq2_ t229.length cq2_, .int .i64 t232] 31 (0, 0)) from by rw [hw]; exact (show _ = some (Obj.cells #[.int .i64 t224, .int .i64 t225, .int .i64 t226, .int .i64 t227, .int .i64 t228, .slice Aq2_ t229.length cq2_, .int .i64 t232] 31 (0, 0)) from by (with_reducible repeat (first | refine blk_drewN ?_ _ | refine blk_drew ?_ | refine blk_alloc ?_ _)); refine blk_put (cs := #[.int .i64 t224, .int .i64 t225, .int .i64 t226, .int .i64 t227, .int .i64 t228, .slice Aq2_ t229.length cq2_, .int .i64 0]) ?_ 6 _ rfl; (with_reducible repeat (first | refine blk_drewN ?_ _ | refine blk_drew ?_ | refine blk_alloc ?_ _)); refine blk_put (cs := #[.int .i64 t224, .int .i64 t225, .int .i64 t226, .int .i64 t227, .int .i64 t228, .slice none 0 0, .int .i64 0]) ?_ 5 _ rfl; (with_reducible repeat (first | refine blk_drewN ?_ _ | refine blk_drew ?_ | refine blk_alloc ?_ _)); refine blk_put (cs := #[.int .i64 t224, .int .i64 t225, .int .i64 t226, .int .i64 t227, .int .i64 0, .slice none 0 0, .int .i64 0]) ?_ 4 _ rfl; (with_reducible repeat (first | refine blk_drewN ?_ _ | refine blk_drew ?_ | refine blk_alloc ?_ _)); refine blk_put (cs := #[.int .i64 t224, .int .i64 t225, .int .i64 t226, .int .i64 0, .int .i64 0, .slice none 0 0, .int .i64 0]) ?_ 3 _ rfl; (with_reducible repeat (first | refine blk_drewN ?_ _ | refine blk_drew ?_ | refine blk_alloc ?_ _)); refine blk_put (cs := #[.int .i64 t224, .int .i64 t225, .int .i64 0, .int .i64 0, .int .i64 0, .slice none 0 0, .int .i64 0]) ?_ 2 _ rfl; (with_reducible repeat (first | refine blk_drewN ?_ _ | refine blk_drew ?_ | refine blk_alloc ?_ _)); refine blk_put (cs := #[.int .i64 t224, .int .i64 0, .int .i64 0, .int .i64 0, .int .i64 0, .slice none 0 0, .int .i64 0]) ?_ 1 _ rfl; (with_reducible repeat (first | refine blk_drewN ?_ _ | refine blk_drew ?_ | refine blk_alloc ?_ _)); refine blk_put (cs := #[.int .i64 0, .int .i64 0, .int .i64 0, .int .i64 0, .int .i64 0, .slice none 0 0, .int .i64 0]) ?_ 0 _ rfl; (with_reducible repeat (first | refine blk_drewN ?_ _ | refine blk_drew ?_ | refine blk_alloc ?_ _)); exact BK223.out))); replace BK233 := Aside0.mk (blk_kept BK233.out hk2 (fun hs_ => by have hs2_ : gb233 = gb223 := hs_; have g_ := HG233.out; have g0_ := HG223.out; have z_ := HLA.out; omega)); replace BK234 := Aside0.mk (blk_kept BK234.out hk2 (fun hs_ => by have hs2_ : gb234 = gb223 := hs_; have g_ := HG234.out; have g0_ := HG223.out; have z_ := HLA.out; omega)); replace HB := Aside0.mk ((show Below w.heap.size w wv11 from by rw [hw]; exact by repeat (first | (with_reducible first | exact HB.out | apply below_alloc | apply pw_below_drewN | apply below_drew1 | refine below_set ?_ GE223.out) | exact HB.out))); replace HLA := Aside0.mk (And.intro HLA.out (hk2.1 : wv10.heap.size ≤ wv11.heap.size)); clear hw hk2))
    refine bodyPost_ret (results_ct rfl _ _ gb223 31 #[.int .i64 t224, .int .i64 t225, .int .i64 t226, .int .i64 t227, .int .i64 t228, .slice Aq2_ t229.length cq2_, .int .i64 t232] (0, 0) _ rfl (BK223.out) Try.underlying31 rfl (by kernel_rfl)) rfl ?_
    exact ⟨_, by first | rfl | (simp [errW_none, errW_some] <;> rfl) | (simp [*] <;> rfl), Kd.R_mono HOq2_.out (fun _ _ => trivial), by repeat (first | (with_reducible first | exact HB.out | apply below_alloc | apply pw_below_drewN | apply below_drew1) | exact HB.out)⟩
  subst c5
  have H1 : ((impl_progress.f a0_0 a0_1 a0_2 a0_3 a0_4).bind fun t236 => (if t236 < a0_6 then (some (t224, t225, t226, t227, t228, t229, t232, false)) else (if a0_2 = 1000000 then (some (t224, t225, t226, t227, t228, t229, t232, false)) else (if a1_0 = a0_0 then ((impl_AreShares.f (([(⟨a1_0, a1_1⟩ : S26)] : List (S26)))).bind fun t240 => (if t240 = true then ((impl_progress.f a1_0 a1_1 (wrap64 (a0_2 + 1)) 0 a0_4).bind fun t241 => (some (a1_0, a1_1, wrap64 (a0_2 + 1), 0, a0_4, t229, t241, true))) else (some (t224, t225, t226, t227, t228, t229, t232, false)))) else (some (t224, t225, t226, t227, t228, t229, t232, false)))))) = some (r1, r2, r3, r4, r5, r6, r7, r8) := by rw [if_pos rfl] at H; exact H
  clear H
  have H := H1
  clear H1
  replace H := Option.bind_eq_some_iff.mp H
  obtain ⟨t236, A60, H⟩ := H
  replace H : (if t236 < a0_6 then (some (t224, t225, t226, t227, t228, t229, t232, false)) else (if a0_2 = 1000000 then (some (t224, t225, t226, t227, t228, t229, t232, false)) else (if a1_0 = a0_0 then ((impl_AreShares.f (([(⟨a1_0, a1_1⟩ : S26)] : List (S26)))).bind fun t240 => (if t240 = true then ((impl_progress.f a1_0 a1_1 (wrap64 (a0_2 + 1)) 0 a0_4).bind fun t241 => (some (a1_0, a1_1, wrap64 (a0_2 + 1), 0, a0_4, t229, t241, true))) else (some (t224, t225, t226, t227, t228, t229, t232, false)))) else (some (t224, t225, t226, t227, t228, t229, t232, false))))) = some (r1, r2, r3, r4, r5, r6, r7, r8) := H
  have A6 := Aside0.mk A60
  clear A60
  by_cases c7 : t236 < a0_6
  · rw [if_pos c7] at H
    have c7b0 : decide (t236 < a0_6) = true := decide_eq_true c7
    clear c7
    simp only [Option.some.injEq, Prod.mk.injEq] at H
    obtain ⟨rfl, rfl, rfl, rfl, rfl, rfl, rfl, rfl⟩ := H
    go_enter Try.func35, Try.ntmps35
    go_wp2_with (first | ((with_reducible refine gate_dst (N := 2) rfl ?_); (try (refine gate_guard (by rfl) ?_; dsimp only)); refine box_event ?hg (N := 2) ?hd (cs := #[.int .i64 a0_0, .int .i64 a0_1, .int .i64 a0_2, .int .i64 a0_3, .int .i64 a0_4, .slice A0_5 l0_5.length c0_5, .int .i64 a0_6]) (t := 31) ?hr ?_; (case hd => rfl); (case hg => rfl); (case hr => first | (go_simp; done) | (go_simp; rfl)); intro gb221 hg wv1 hbox hb; have BK221 := Aside0.mk (hbox); have GE221 := Aside0.mk ((by rw [hg]; exact Nat.le_trans HB.out.size ((Kept.refl w (fun _ => False))).1 : w.heap.size ≤ gb221)); have HG221 := Aside0.mk ((⟨by rw [hg]; exact ((Kept.refl w (fun _ => False))).1, blk_lt hbox⟩ : w.heap.size ≤ gb221 ∧ gb221 < wv1.heap.size)); have HLA := Aside0.mk (((Kept.below (Kept.refl w (fun _ => False)) hb).1 : w.heap.size ≤ wv1.heap.size)); replace HB := Aside0.mk (below_step HB.out hb); clear hb hbox hg) | ((with_reducible refine gate_dst (N := 3) rfl ?_); (try (refine gate_guard (by rfl) ?_; dsimp only)); refine box_event ?hg (N := 3) ?hd (cs := #[.int .i64 a1_0, .int .i64 a1_1]) (t := 26) ?hr ?_; (case hd => rfl); (case hg => rfl); (case hr => first | (go_simp; done) | (go_simp; rfl)); intro gb222 hg wv2 hbox hb; have BK222 := Aside0.mk (hbox); have GE222 := Aside0.mk ((by rw [hg]; exact Nat.le_trans HB.out.size ((Kept.refl wv1 (fun _ => False))).1 : w.heap.size ≤ gb222)); have HG222 := Aside0.mk ((⟨by rw [hg]; exact ((Kept.refl wv1 (fun _ => False))).1, blk_lt hbox⟩ : wv1.heap.size ≤ gb222 ∧ gb222 < wv2.heap.size)); replace BK221 := Aside0.mk (blk_below BK221.out hb); replace HB := Aside0.mk (below_step HB.out hb); replace HLA := Aside0.mk (And.intro HLA.out ((Kept.below (Kept.refl wv1 (fun _ => False)) hb).1 : wv1.heap.size ≤ wv2.heap.size)); clear hb hbox hg) | ((with_reducible refine gate_dst (N := 4) rfl ?_); (try (refine gate_guard (by rfl) ?_; dsimp only)); refine box_event ?hg (N := 4) ?hd (cs := #[.int .i64 0, .int .i64 0, .int .i64 0, .int .i64 0, .int .i64 0, .slice none 0 0, .int .i64 0]) (t := 31) ?hr ?_; (case hd => rfl); (case hg => rfl); (case hr => first | (go_simp; done) | (go_simp; rfl)); intro gb223 hg wv3 hbox hb; have BK223 := Aside0.mk (hbox); have GE223 := Aside0.mk ((by rw [hg]; exact Nat.le_trans HB.out.size ((Kept.refl wv2 (fun _ => False))).1 : w.heap.size ≤ gb223)); have HG223 := Aside0.mk ((⟨by rw [hg]; exact ((Kept.refl wv2 (fun _ => False))).1, blk_lt hbox⟩ : wv2.heap.size ≤ gb223 ∧ gb223 < wv3.heap.size)); replace BK221 := Aside0.mk (blk_below BK221.out hb); replace BK222 := Aside0.mk (blk_below BK222.out hb); replace HB := Aside0.mk (below_step HB.out hb); replace HLA := Aside0.mk (And.intro HLA.out ((Kept.below (Kept.refl wv2 (fun _ => False)) hb).1 : wv2.heap.size ≤ wv3.heap.size)); clear hb hbox hg; obtain ⟨hcz1_0, hcz1_1, hcz1_2, hcz1_3, hcz1_4, hcz1_5, hcz1_6, hcz1_f0, hcz1_f1, hcz1_f2, hcz1_f3, hcz1_f4, hcz1_f5, hcz1_f6⟩ := lk_c7 BK221.out) | ((with_reducible refine gate_callee (f := 61) rfl ?_); refine goesL_ (some 9) rfl rfl Try.func61 (by kernel_rfl) rfl #[.agg #[.int .i64 a0_0, .int .i64 a0_1, .int .i64 a0_2, .int .i64 a0_3, .int .i64 a0_4, .slice A0_5 l0_5.length c0_5, .int .i64 a0_6]] rfl (by (try simp only [List.map_toArray, List.map_cons, List.map_nil]); first | done | rfl | (simp only [List.length_drop, List.length_take]; rfl)) ?_; (with_reducible refine (impl_copyHost.calls a0_0 a0_1 a0_2 a0_3 a0_4 _ _ l0_5 a0_6 t224 t225 t226 t227 t228 t229 t232 _ ?side1 ?side2 A3.out).mono ?_); (case side1 => exact Kd.C_below HR0_5.out (by repeat (first | (with_reducible first | exact HB.out | apply below_alloc | apply pw_below_drewN | apply below_drew1) | exact HB.out))); (case side2 => exact HC0_5.out); rintro e wv4 ⟨vq2_, rfl, ho0, hb⟩; refine ⟨_, rfl, ?_⟩; have hkW := (Kept.refl wv3 (fun _ => False)); have hk2 := Kept.below hkW hb; obtain ⟨Aq2_, cq2_, rfl⟩ := Kd.R_slice ho0; obtain ⟨okq2_, hoo0, hi0⟩ := lk_R ho0 (a := wv3.heap.size) (b := w.heap.size) hkW.1 (Nat.le_trans HB.out.size hkW.1); have HOq2_ := Aside0.mk (hoo0); have HIq2_ := Aside0.mk (hi0); replace BK221 := Aside0.mk (blk_below BK221.out hb); replace BK222 := Aside0.mk (blk_below BK222.out hb); replace BK223 := Aside0.mk (blk_below BK223.out hb); replace HB := Aside0.mk (below_step (by repeat (first | (with_reducible first | exact HB.out | apply below_alloc | apply pw_below_drewN | apply below_drew1) | exact HB.out)) hb); replace HLA := Aside0.mk (And.intro HLA.out (hk2.1 : wv3.heap.size ≤ wv4.heap.size)); (try clear hb); (try clear hkW); (try clear hk2); (try clear hkp); (try clear hoo0); (try clear hi0); (try clear ho0)) | ((with_reducible refine gate_dst (N := 6) rfl ?_); (try (refine gate_guard (by rfl) ?_; dsimp only)); refine box_event ?hg (N := 6) ?hd (cs := #[.int .i64 0, .int .i64 0, .int .i64 0, .int .i64 0, .int .i64 0, .slice none 0 0, .int .i64 0]) (t := 31) ?hr ?_; (case hd => rfl); (case hg => rfl); (case hr => first | (go_simp; done) | (go_simp; rfl)); intro gb233 hg wv5 hbox hb; have BK233 := Aside0.mk (hbox); have GE233 := Aside0.mk ((by rw [hg]; exact Nat.le_trans HB.out.size ((Kept.refl wv4 (fun _ => False))).1 : w.heap.size ≤ gb233)); have HG233 := Aside0.mk ((⟨by rw [hg]; exact ((Kept.refl wv4 (fun _ => False))).1, blk_lt hbox⟩ : wv4.heap.size ≤ gb233 ∧ gb233 < wv5.heap.size)); replace HOq2_ := Aside0.mk (Kd.R_below HOq2_.out hb); replace BK221 := Aside0.mk (blk_below BK221.out hb); replace BK222 := Aside0.mk (blk_below BK222.out hb); replace BK223 := Aside0.mk (blk_below BK223.out hb); replace HB := Aside0.mk (below_step HB.out hb); replace HLA := Aside0.mk (And.intro HLA.out ((Kept.below (Kept.refl wv4 (fun _ => False)) hb).1 : wv4.heap.size ≤ wv5.heap.size)); clear hb hbox hg; obtain ⟨hcz3_0, hcz3_1, hcz3_2, hcz3_3, hcz3_4, hcz3_5, hcz3_6, hcz3_f0, hcz3_f1, hcz3_f2, hcz3_f3, hcz3_f4, hcz3_f5, hcz3_f6⟩ := lk_c7 BK233.out) | ((with_reducible refine gate_store (t := 31) (p := 6) rfl ?_); refine store_event (t := 31) (p := 6) (v := ?vo_lg14) (w1 := (((((((wv5.setCell ⟨gb233, 0, none⟩ (.int .i64 t224)).setCell ⟨gb233, 1, none⟩ (.int .i64 t225)).setCell ⟨gb233, 2, none⟩ (.int .i64 t226)).setCell ⟨gb233, 3, none⟩ (.int .i64 t227)).setCell ⟨gb233, 4, none⟩ (.int .i64 t228)).setCell ⟨gb233, 5, none⟩ (.slice Aq2_ t229.length cq2_)).setCell ⟨gb233, 6, none⟩ (.int .i64 t232))) ?hg ?ho ?hn ?hr ?_; (case ho => rfl); (case hg => rfl); (case hn => rfl); (case hr => first | (go_simp; done) | (go_simp; rfl)); intro wv6 hw; have hk2 := (show Kept wv5 wv6 (fun k_ => k_ = gb233) from by rw [hw]; exact (show Kept wv5 (((((((wv5.setCell ⟨gb233, 0, none⟩ (.int .i64 t224)).setCell ⟨gb233, 1, none⟩ (.int .i64 t225)).setCell ⟨gb233, 2, none⟩ (.int .i64 t226)).setCell ⟨gb233, 3, none⟩ (.int .i64 t227)).setCell ⟨gb233, 4, none⟩ (.int .i64 t228)).setCell ⟨gb233, 5, none⟩ (.slice Aq2_ t229.length cq2_)).setCell ⟨gb233, 6, none⟩ (.int .i64 t232)) (fun k_ => k_ = gb233) from by repeat (first | (with_reducible first | exact Kept.refl _ _ | apply Kept.alloc | apply Kept.drewN | apply Kept.drew) | refine Kept.setCell ?_ (.inl (by first | exact rfl | exact .inl rfl | exact .inr rfl | exact .inr (.inl rfl) | exact .inr (.inr rfl))) _ | exact Kept.refl _ _))); replace HOq2_ := Aside0.mk (Kd.R_kept HOq2_.out hk2 (fun k_ hk_ hs_ => by have i_ := HIq2_.out k_ hk_; have hs2_ : k_ = gb233 := hs_; have g0_ := HG233.out; have z_ := HLA.out; omega)); replace BK221 := Aside0.mk (blk_kept BK221.out hk2 (fun hs_ => by have hs2_ : gb221 = gb233 := hs_; have g_ := HG221.out; have g0_ := HG233.out; have z_ := HLA.out; omega)); replace BK222 := Aside0.mk (blk_kept BK222.out hk2 (fun hs_ => by have hs2_ : gb222 = gb233 := hs_; have g_ := HG222.out; have g0_ := HG233.out; have z_ := HLA.out; omega)); replace BK223 := Aside0.mk (blk_kept BK223.out hk2 (fun hs_ => by have hs2_ : gb223 = gb233 := hs_; have g_ := HG223.out; have g0_ := HG233.out; have z_ := HLA.out; omega)); replace BK233 := Aside0.mk ((show wv6.heap[gb233]? = some (Obj.cells #[.int .i64 t224, .int .i64 t225, .int .i64 t226, .int .i64 t227, .int .i64 t228, .slice Aq2_ t229.length cq2_, .int .i64 t232] 31 (0, 0)) from by rw [hw]; exact (show _ = some (Obj.cells #[.int .i64 t224, .int .i64 t225, .int .i64 t226, .int .i64 t227, .int .i64 t228, .slice Aq2_ t229.length cq2_, .int .i64 t232] 31 (0, 0)) from by (with_reducible repeat (first | refine blk_drewN ?_ _ | refine blk_drew ?_ | refine blk_alloc ?_ _)); refine blk_put (cs := #[.int .i64 t224, .int .i64 t225, .int .i64 t226, .int .i64 t227, .int .i64 t228, .slice Aq2_ t229.length cq2_, .int .i64 0]) ?_ 6 _ rfl; (with_reducible repeat (first | refine blk_drewN ?_ _ | refine blk_drew ?_ | refine blk_alloc ?_ _)); refine blk_put (cs := #[.int .i64 t224, .int .i64 t225, .int .i64 t226, .int .i64 t227, .int .i64 t228, .slice none 0 0, .int .i64 0]) ?_ 5 _ rfl; (with_reducible repeat (first | refine blk_drewN ?_ _ | refine blk_drew ?_ | refine blk_alloc ?_ _)); refine blk_put (cs := #[.int .i64 t224, .int .i64 t225, .int .i64 t226, .int .i64 t227, .int .i64 0, .slice none 0 0, .int .i64 0]) ?_ 4 _ rfl; (with_reducible repeat (first | refine blk_drewN ?_ _ | refine blk_drew ?_ | refine blk_alloc ?_ _)); refine blk_put (cs := #[.int .i64 t224, .int .i64 t225, .int .i64 t226, .int .i64 0, .int .i64 0, .slice none 0 0, .int .i64 0]) ?_ 3 _ rfl; (with_reducible repeat (first | refine blk_drewN ?_ _ | refine blk_drew ?_ | refine blk_alloc ?_ _)); refine blk_put (cs := #[.int .i64 t224, .int .i64 t225, .int .i64 0, .int .i64 0, .int .i64 0, .slice none 0 0, .int .i64 0]) ?_ 2 _ rfl; (with_reducible repeat (first | refine blk_drewN ?_ _ | refine blk_drew ?_ | refine blk_alloc ?_ _)); refine blk_put (cs := #[.int .i64 t224, .int .i64 0, .int .i64 0, .int .i64 0, .int .i64 0, .slice none 0 0, .int .i64 0]) ?_ 1 _ rfl; (with_reducible repeat (first | refine blk_drewN ?_ _ | refine blk_drew ?_ | refine blk_alloc ?_ _)); refine blk_put (cs := #[.int .i64 0, .int .i64 0, .int .i64 0, .int .i64 0, .int .i64 0, .slice none 0 0, .int .i64 0]) ?_ 0 _ rfl; (with_reducible repeat (first | refine blk_drewN ?_ _ | refine blk_drew ?_ | refine blk_alloc ?_ _)); exact BK233.out))); replace HB := Aside0.mk ((show Below w.heap.size w wv6 from by rw [hw]; exact by repeat (first | (with_reducible first | exact HB.out | apply below_alloc | apply pw_below_drewN | apply below_drew1 | refine below_set ?_ GE233.out) | exact HB.out))); replace HLA := Aside0.mk (And.intro HLA.out (hk2.1 : wv5.heap.size ≤ wv6.heap.size)); clear hw hk2; obtain ⟨hcz4_0, hcz4_1, hcz4_2, hcz4_3, hcz4_4, hcz4_5, hcz4_6, hcz4_f0, hcz4_f1, hcz4_f2, hcz4_f3, hcz4_f4, hcz4_f5, hcz4_f6⟩ := lk_c7 BK221.out) | ((with_reducible refine gate_dst (N := 7) rfl ?_); (try (refine gate_guard (by rfl) ?_; dsimp only)); refine box_event ?hg (N := 7) ?hd (cs := #[.int .i64 0, .int .i64 0, .int .i64 0, .int .i64 0, .int .i64 0]) (t := 28) ?hr ?_; (case hd => rfl); (case hg => rfl); (case hr => first | (go_simp; done) | (go_simp; rfl)); intro gb234 hg wv7 hbox hb; have BK234 := Aside0.mk (hbox); have GE234 := Aside0.mk ((by rw [hg]; exact Nat.le_trans HB.out.size ((Kept.refl wv6 (fun _ => False))).1 : w.heap.size ≤ gb234)); have HG234 := Aside0.mk ((⟨by rw [hg]; exact ((Kept.refl wv6 (fun _ => False))).1, blk_lt hbox⟩ : wv6.heap.size ≤ gb234 ∧ gb234 < wv7.heap.size)); replace HOq2_ := Aside0.mk (Kd.R_below HOq2_.out hb); replace BK221 := Aside0.mk (blk_below BK221.out hb); replace BK222 := Aside0.mk (blk_below BK222.out hb); replace BK223 := Aside0.mk (blk_below BK223.out hb); replace BK233 := Aside0.mk (blk_below BK233.out hb); replace HB := Aside0.mk (below_step HB.out hb); replace HLA := Aside0.mk (And.intro HLA.out ((Kept.below (Kept.refl wv6 (fun _ => False)) hb).1 : wv6.heap.size ≤ wv7.heap.size)); clear hb hbox hg; obtain ⟨hcz5_0, hcz5_1, hcz5_2, hcz5_3, hcz5_4, hcz5_f0, hcz5_f1, hcz5_f2, hcz5_f3, hcz5_f4⟩ := lk_c5 BK234.out) | ((with_reducible refine gate_store (t := 28) (p := 7) rfl ?_); refine store_event (t := 28) (p := 7) (v := ?vo_lg15) (w1 := (((((wv7.setCell ⟨gb234, 0, none⟩ (.int .i64 a0_0)).setCell ⟨gb234, 1, none⟩ (.int .i64 a0_1)).setCell ⟨gb234, 2, none⟩ (.int .i64 a0_2)).setCell ⟨gb234, 3, none⟩ (.int .i64 a0_3)).setCell ⟨gb234, 4, none⟩ (.int .i64 a0_4))) ?hg ?ho ?hn ?hr ?_; (case ho => rfl); (case hg => rfl); (case hn => rfl); (case hr => first | (go_simp; done) | (go_simp; rfl)); intro wv8 hw; have hk2 := (show Kept wv7 wv8 (fun k_ => k_ = gb234) from by rw [hw]; exact (show Kept wv7 (((((wv7.setCell ⟨gb234, 0, none⟩ (.int .i64 a0_0)).setCell ⟨gb234, 1, none⟩ (.int .i64 a0_1)).setCell ⟨gb234, 2, none⟩ (.int .i64 a0_2)).setCell ⟨gb234, 3, none⟩ (.int .i64 a0_3)).setCell ⟨gb234, 4, none⟩ (.int .i64 a0_4)) (fun k_ => k_ = gb234) from by repeat (first | (with_reducible first | exact Kept.refl _ _ | apply Kept.alloc | apply Kept.drewN | apply Kept.drew) | refine Kept.setCell ?_ (.inl (by first | exact rfl | exact .inl rfl | exact .inr rfl | exact .inr (.inl rfl) | exact .inr (.inr rfl))) _ | exact Kept.refl _ _))); replace HOq2_ := Aside0.mk (Kd.R_kept HOq2_.out hk2 (fun k_ hk_ hs_ => by have i_ := HIq2_.out k_ hk_; have hs2_ : k_ = gb234 := hs_; have g0_ := HG234.out; have z_ := HLA.out; omega)); replace BK221 := Aside0.mk (blk_kept BK221.out hk2 (fun hs_ => by have hs2_ : gb221 = gb234 := hs_; have g_ := HG221.out; have g0_ := HG234.out; have z_ := HLA.out; omega)); replace BK222 := Aside0.mk (blk_kept BK222.out hk2 (fun hs_ => by have hs2_ : gb222 = gb234 := hs_; have g_ := HG222.out; have g0_ := HG234.out; have z_ := HLA.out; omega)); replace BK223 := Aside0.mk (blk_kept BK223.out hk2 (fun hs_ => by have hs2_ : gb223 = gb234 := hs_; have g_ := HG223.out; have g0_ := HG234.out; have z_ := HLA.out; omega)); replace BK233 := Aside0.mk (blk_kept BK233.out hk2 (fun hs_ => by have hs2_ : gb233 = gb234 := hs_; have g_ := HG233.out; have g0_ := HG234.out; have z_ := HLA.out; omega)); replace BK234 := Aside0.mk ((show wv8.heap[gb234]? = some (Obj.cells #[.int .i64 a0_0, .int .i64 a0_1, .int .i64 a0_2, .int .i64 a0_3, .int .i64 a0_4] 28 (0, 0)) from by rw [hw]; exact (show _ = some (Obj.cells #[.int .i64 a0_0, .int .i64 a0_1, .int .i64 a0_2, .int .i64 a0_3, .int .i64 a0_4] 28 (0, 0)) from by (with_reducible repeat (first | refine blk_drewN ?_ _ | refine blk_drew ?_ | refine blk_alloc ?_ _)); refine blk_put (cs := #[.int .i64 a0_0, .int .i64 a0_1, .int .i64 a0_2, .int .i64 a0_3, .int .i64 0]) ?_ 4 _ rfl; (with_reducible repeat (first | refine blk_drewN ?_ _ | refine blk_drew ?_ | refine blk_alloc ?_ _)); refine blk_put (cs := #[.int .i64 a0_0, .int .i64 a0_1, .int .i64 a0_2, .int .i64 0, .int .i64 0]) ?_ 3 _ rfl; (with_reducible repeat (first | refine blk_drewN ?_ _ | refine blk_drew ?_ | refine blk_alloc ?_ _)); refine blk_put (cs := #[.int .i64 a0_0, .int .i64 a0_1, .int .i64 0, .int .i64 0, .int .i64 0]) ?_ 2 _ rfl; (with_reducible repeat (first | refine blk_drewN ?_ _ | refine blk_drew ?_ | refine blk_alloc ?_ _)); refine blk_put (cs := #[.int .i64 a0_0, .int .i64 0, .int .i64 0, .int .i64 0, .int .i64 0]) ?_ 1 _ rfl; (with_reducible repeat (first | refine blk_drewN ?_ _ | refine blk_drew ?_ | refine blk_alloc ?_ _)); refine blk_put (cs := #[.int .i64 0, .int .i64 0, .int .i64 0, .int .i64 0, .int .i64 0]) ?_ 0 _ rfl; (with_reducible repeat (first | refine blk_drewN ?_ _ | refine blk_drew ?_ | refine blk_alloc ?_ _)); exact BK234.out))); replace HB := Aside0.mk ((show Below w.heap.size w wv8 from by rw [hw]; exact by repeat (first | (with_reducible first | exact HB.out | apply below_alloc | apply pw_below_drewN | apply below_drew1 | refine below_set ?_ GE234.out) | exact HB.out))); replace HLA := Aside0.mk (And.intro HLA.out (hk2.1 : wv7.heap.size ≤ wv8.heap.size)); clear hw hk2))
    replace HOq2_ := Aside0.mk (Kd.R_kept HOq2_.out (show Kept wv8 wv8.drew (fun k_ => False) from by repeat (first | (with_reducible first | exact Kept.refl _ _ | apply Kept.alloc | apply Kept.drewN | apply Kept.drew) | exact Kept.refl _ _)) (fun _ _ hs_ => hs_.elim))
    replace BK221 := Aside0.mk ((blk_kept BK221.out (show Kept wv8 wv8.drew (fun k_ => False) from by repeat (first | (with_reducible first | exact Kept.refl _ _ | apply Kept.alloc | apply Kept.drewN | apply Kept.drew) | exact Kept.refl _ _)) (fun hs_ => hs_.elim)))
    replace BK222 := Aside0.mk ((blk_kept BK222.out (show Kept wv8 wv8.drew (fun k_ => False) from by repeat (first | (with_reducible first | exact Kept.refl _ _ | apply Kept.alloc | apply Kept.drewN | apply Kept.drew) | exact Kept.refl _ _)) (fun hs_ => hs_.elim)))
    replace BK223 := Aside0.mk ((blk_kept BK223.out (show Kept wv8 wv8.drew (fun k_ => False) from by repeat (first | (with_reducible first | exact Kept.refl _ _ | apply Kept.alloc | apply Kept.drewN | apply Kept.drew) | exact Kept.refl _ _)) (fun hs_ => hs_.elim)))
    replace BK233 := Aside0.mk ((blk_kept BK233.out (show Kept wv8 wv8.drew (fun k_ => False) from by repeat (first | (with_reducible first | exact Kept.refl _ _ | apply Kept.alloc | apply Kept.drewN | apply Kept.drew) | exact Kept.refl _ _)) (fun hs_ => hs_.elim)))
    replace BK234 := Aside0.mk ((blk_kept BK234.out (show Kept wv8 wv8.drew (fun k_ => False) from by repeat (first | (with_reducible first | exact Kept.refl _ _ | apply Kept.alloc | apply Kept.drewN | apply Kept.drew) | exact Kept.refl _ _)) (fun hs_ => hs_.elim)))
    replace HB := Aside0.mk ((show Below w.heap.size w (wv8.drew) from by repeat (first | (with_reducible first | exact HB.out | apply below_alloc | apply pw_below_drewN | apply below_drew1) | exact HB.out)))
    replace HLA := Aside0.mk (And.intro HLA.out ((show Kept wv8 wv8.drew (fun k_ => False) from by repeat (first | (with_reducible first | exact Kept.refl _ _ | apply Kept.alloc | apply Kept.drewN | apply Kept.drew) | exact Kept.refl _ _)).1 : wv8.heap.size ≤ (wv8.drew).heap.size))
    refine start_ (n := 29) (S := fun w' => w'.cell? ⟨gb234, 0, none⟩ = some (.int .i64 a0_0) ∧ w'.cell? ⟨gb234, 1, none⟩ = some (.int .i64 a0_1) ∧ w'.cell? ⟨gb234, 2, none⟩ = some (.int .i64 a0_2) ∧ w'.cell? ⟨gb234, 3, none⟩ = some (.int .i64 a0_3) ∧ w'.cell? ⟨gb234, 4, none⟩ = some (.int .i64 a0_4) ∧ w'.cell? ⟨gb221, 0, none⟩ = some (.int .i64 a0_0) ∧ w'.cell? ⟨gb221, 1, none⟩ = some (.int .i64 a0_1) ∧ w'.cell? ⟨gb221, 2, none⟩ = some (.int .i64 a0_2) ∧ w'.cell? ⟨gb221, 3, none⟩ = some (.int .i64 a0_3) ∧ w'.cell? ⟨gb221, 4, none⟩ = some (.int .i64 a0_4) ∧ w'.cell? ⟨gb221, 5, none⟩ = some (.slice A0_5 l0_5.length c0_5) ∧ w'.cell? ⟨gb221, 6, none⟩ = some (.int .i64 a0_6)) (ds := []) #[false, false, false, false, false, false, false, false, false, false, false, false, false, false, false, false, false, false, false, false, false, false, false, false, false, false, false, false, false] (by kernel_rfl) rfl rfl (lk_t5 BK234.out (lk_e7 BK221.out)) (fun hHeld => ?_)
    generalize wv8.drew = wv9 at HOq2_ BK221 BK222 BK223 BK233 BK234 HB HLA hHeld ⊢
    refine take_ (i := 0) (N := some 12) (v := ?_) (a' := ?_) #[true, false, false, false, false, false, false, false, false, false, false, false, false, false, false, false, false, false, false, false, false, false, false, false, false, false, false, false, false] rfl rfl (by kernel_rfl) (fun _ _ _ h => h) (Or.inl ⟨by rfl, ?_⟩) hHeld ?_ ?_
    rotate_left
    · rintro w' ⟨s0, s1, s2, s3, s4, s5, s6, s7, s8, s9, s10, s11⟩
      go_simp
      with_reducible rfl
    rotate_left
    · simp only [Act.put, List.setIfInBounds_toArray, List.set_cons_zero, List.set_cons_succ, i64_w, i32_w]
      rfl
    refine one_ (i := 1) (N := some 13) #[true, true, false, false, false, false, false, false, false, false, false, false, false, false, false, false, false, false, false, false, false, false, false, false, false, false, false, false, false] rfl rfl (by kernel_rfl) (by decide) (fun K hK => ?_)
    refine goes_ Try.func22 (by kernel_rfl) rfl #[.agg #[.int .i64 a0_0, .int .i64 a0_1, .int .i64 a0_2, .int .i64 a0_3, .int .i64 a0_4]] (by rfl) rfl rfl (by (try simp only [List.map_toArray, List.map_cons, List.map_nil]); first | done | rfl | (simp only [List.length_drop, List.length_take]; rfl)) ?_
    (with_reducible refine (impl_IsValidKeeper.calls a0_0 a0_1 a0_2 a0_3 a0_4 true _  A4.out).mono ?_)
    rintro e wv10 ⟨rfl, hb⟩
    refine ⟨_, rfl, ?_⟩
    have hkW := (Kept.refl wv9 (fun _ => False))
    have hk2 := Kept.below hkW hb
    replace HOq2_ := Aside0.mk (Kd.R_below HOq2_.out hb)
    replace BK221 := Aside0.mk (blk_below BK221.out hb)
    replace BK222 := Aside0.mk (blk_below BK222.out hb)
    replace BK223 := Aside0.mk (blk_below BK223.out hb)
    replace BK233 := Aside0.mk (blk_below BK233.out hb)
    replace BK234 := Aside0.mk (blk_below BK234.out hb)
    replace HB := Aside0.mk (below_step (by repeat (first | (with_reducible first | exact HB.out | apply below_alloc | apply pw_below_drewN | apply below_drew1) | exact HB.out)) hb)
    replace HLA := Aside0.mk (And.intro HLA.out (hk2.1 : wv9.heap.size ≤ wv10.heap.size))
    (try clear hb)
    (try clear hkW)
    (try clear hk2)
    (try clear hkp)
    refine hK.out _ _ (lk_t5 BK234.out (lk_e7 BK221.out)) (fun hHeld => ?_)
    clear hK K
    refine norm_ (a' := ?_) ?_ ?_
    rotate_left
    · show Act.put _ (some 13) _ = _
      simp only [Act.put, List.setIfInBounds_toArray, List.set_cons_zero, List.set_cons_succ, i64_w, i32_w]
      rfl
    refine pure_ (i := 2) (N := some 14) (v := ?_) (a' := ?_) #[true, true, true, false, false, false, false, false, false, false, false, false, false, false, false, false, false, false, false, false, false, false, false, false, false, false, false, false, false] rfl rfl (by kernel_rfl) (fun _ _ _ h => h) (Or.inl ⟨by rfl, ?_⟩) ?_ ?_
    rotate_left
    · intro w'
      go_simp
      with_reducible rfl
    rotate_left
    · simp only [Act.put, List.setIfInBounds_toArray, List.set_cons_zero, List.set_cons_succ, i64_w, i32_w]
      rfl
    refine pure_ (i := 3) (N := some 15) (v := ?_) (a' := ?_) #[true, true, true, true, false, false, false, false, false, false, false, false, false, false, false, false, false, false, false, false, false, false, false, false, false, false, false, false, false] rfl rfl (by kernel_rfl) (fun _ _ _ h => h) (Or.inl ⟨by rfl, ?_⟩) ?_ ?_
    rotate_left
    · intro w'
      go_simp
      with_reducible rfl
    rotate_left
    · simp only [Act.put, List.setIfInBounds_toArray, List.set_cons_zero, List.set_cons_succ, i64_w, i32_w]
      rfl
    refine pure_ (i := 6) (N := some 18) (v := ?_) (a' := ?_) #[true, true, true, true, false, false, true, false, false, false, false, false, false, false, false, false, false, false, false, false, false, false, false, false, false, false, false, false, false] rfl rfl (by kernel_rfl) (fun _ _ _ h => h) (Or.inl ⟨by rfl, ?_⟩) ?_ ?_
    rotate_left
    · intro w'
      go_simp
      with_reducible rfl
    rotate_left
    · simp only [Act.put, List.setIfInBounds_toArray, List.set_cons_zero, List.set_cons_succ, i64_w, i32_w]
      rfl
    refine take_ (i := 4) (N := some 16) (v := ?_) (a' := ?_) #[true, true, true, true, true, false, true, false, false, false, false, false, false, false, false, false, false, false, false, false, false, false, false, false, false, false, false, false, false] rfl rfl (by kernel_rfl) (fun _ _ _ h => h) (Or.inl ⟨by rfl, ?_⟩) hHeld ?_ ?_
    rotate_left
    · rintro w' ⟨s0, s1, s2, s3, s4, s5, s6, s7, s8, s9, s10, s11⟩
      go_simp
      with_reducible rfl
    rotate_left
    · simp only [Act.put, List.setIfInBounds_toArray, List.set_cons_zero, List.set_cons_succ, i64_w, i32_w]
      rfl
    refine take_ (i := 7) (N := some 19) (v := ?_) (a' := ?_) #[true, true, true, true, true, false, true, true, false, false, false, false, false, false, false, false, false, false, false, false, false, false, false, false, false, false, false, false, false] rfl rfl (by kernel_rfl) (fun _ _ _ h => h) (Or.inl ⟨by rfl, ?_⟩) hHeld ?_ ?_
    rotate_left
    · rintro w' ⟨s0, s1, s2, s3, s4, s5, s6, s7, s8, s9, s10, s11⟩
      go_simp
      with_reducible rfl
    rotate_left
    · simp only [Act.put, List.setIfInBounds_toArray, List.set_cons_zero, List.set_cons_succ, i64_w, i32_w]
      rfl
    refine one_ (i := 5) (N := some 17) #[true, true, true, true, true, true, true, true, false, false, false, false, false, false, false, false, false, false, false, false, false, false, false, false, false, false, false, false, false] rfl rfl (by kernel_rfl) (by decide) (fun K hK => ?_)
    refine goes_ Try.func60 (by kernel_rfl) rfl #[.agg #[.int .i64 a0_0, .int .i64 a0_1, .int .i64 a0_2, .int .i64 a0_3, .int .i64 a0_4]] (by rfl) rfl rfl (by (try simp only [List.map_toArray, List.map_cons, List.map_nil]); first | done | rfl | (simp only [List.length_drop, List.length_take]; rfl)) ?_
    (with_reducible refine (impl_progress.calls a0_0 a0_1 a0_2 a0_3 a0_4 t236 _  A6.out).mono ?_)
    rintro e wv11 ⟨rfl, hb⟩
    refine ⟨_, rfl, ?_⟩
    have hkW := (Kept.refl wv10 (fun _ => False))
    have hk2 := Kept.below hkW hb
    replace HOq2_ := Aside0.mk (Kd.R_below HOq2_.out hb)
    replace BK221 := Aside0.mk (blk_below BK221.out hb)
    replace BK222 := Aside0.mk (blk_below BK222.out hb)
    replace BK223 := Aside0.mk (blk_below BK223.out hb)
    replace BK233 := Aside0.mk (blk_below BK233.out hb)
    replace BK234 := Aside0.mk (blk_below BK234.out hb)
    replace HB := Aside0.mk (below_step (by repeat (first | (with_reducible first | exact HB.out | apply below_alloc | apply pw_below_drewN | apply below_drew1) | exact HB.out)) hb)
    replace HLA := Aside0.mk (And.intro HLA.out (hk2.1 : wv10.heap.size ≤ wv11.heap.size))
    (try clear hb)
    (try clear hkW)
    (try clear hk2)
    (try clear hkp)
    refine hK.out _ _ (lk_t5 BK234.out (lk_e7 BK221.out)) (fun hHeld => ?_)
    clear hK K
    refine norm_ (a' := ?_) ?_ ?_
    rotate_left
    · show Act.put _ (some 17) _ = _
      simp only [Act.put, List.setIfInBounds_toArray, List.set_cons_zero, List.set_cons_succ, i64_w, i32_w]
      rfl
    refine pure_ (i := 8) (N := some 20) (v := ?_) (a' := ?_) #[true, true, true, true, true, true, true, true, true, false, false, false, false, false, false, false, false, false, false, false, false, false, false, false, false, false, false, false, false] rfl rfl (by kernel_rfl) (fun _ _ _ h => h) (Or.inl ⟨by rfl, ?_⟩) ?_ ?_
    rotate_left
    · intro w'
      go_simp
      with_reducible rfl
    rotate_left
    · simp only [Act.put, List.setIfInBounds_toArray, List.set_cons_zero, List.set_cons_succ, i64_w, i32_w]
      rfl
    refine pure_ (i := 9) (N := some 21) (v := ?_) (a' := ?_) #[true, true, true, true, true, true, true, true, true, true, false, false, false, false, false, false, false, false, false, false, false, false, false, false, false, false, false, false, false] rfl rfl (by kernel_rfl) (fun _ _ _ h => h) (Or.inl ⟨by rfl, ?_⟩) ?_ ?_
    rotate_left
    · intro w'
      go_simp
      with_reducible rfl
    rotate_left
    · simp only [Act.put, List.setIfInBounds_toArray, List.set_cons_zero, List.set_cons_succ, i64_w, i32_w]
      rfl
    refine pure_ (i := 10) (N := some 22) (v := ?_) (a' := ?_) #[true, true, true, true, true, true, true, true, true, true, true, false, false, false, false, false, false, false, false, false, false, false, false, false, false, false, false, false, false] rfl rfl (by kernel_rfl) (fun _ _ _ h => h) (Or.inl ⟨by rfl, ?_⟩) ?_ ?_
    rotate_left
    · intro w'
      go_simp
      with_reducible rfl
    rotate_left
    · simp only [Act.put, List.setIfInBounds_toArray, List.set_cons_zero, List.set_cons_succ, i64_w, i32_w]
      rfl
    refine pure_ (i := 11) (N := some 23) (v := undef) (a' := ?_) #[true, true, true, true, true, true, true, true, true, true, true, true, false, false, false, false, false, false, false, false, false, false, false, false, false, false, false, false, false] rfl rfl (by kernel_rfl) (fun _ _ _ h => h) (Or.inr ⟨by rfl, rfl⟩) ?_ ?_
    rotate_left
    · simp only [Act.put, List.setIfInBounds_toArray, List.set_cons_zero, List.set_cons_succ, i64_w, i32_w]
      rfl
    refine pure_ (i := 12) (N := some 24) (v := undef) (a' := ?_) #[true, true, true, true, true, true, true, true, true, true, true, true, true, false, false, false, false, false, false, false, false, false, false, false, false, false, false, false, false] rfl rfl (by kernel_rfl) (fun _ _ _ h => h) (Or.inr ⟨by rfl, rfl⟩) ?_ ?_
    rotate_left
    · simp only [Act.put, List.setIfInBounds_toArray, List.set_cons_zero, List.set_cons_succ, i64_w, i32_w]
      rfl
    refine pure_ (i := 13) (N := some 25) (v := undef) (a' := ?_) #[true, true, true, true, true, true, true, true, true, true, true, true, true, true, false, false, false, false, false, false, false, false, false, false, false, false, false, false, false] rfl rfl (by kernel_rfl) (fun _ _ _ h => h) (Or.inr ⟨by rfl, rfl⟩) ?_ ?_
    rotate_left
    · simp only [Act.put, List.setIfInBounds_toArray, List.set_cons_zero, List.set_cons_succ, i64_w, i32_w]
      rfl
    refine pure_ (i := 14) (N := some 26) (v := ?_) (a' := ?_) #[true, true, true, true, true, true, true, true, true, true, true, true, true, true, true, false, false, false, false, false, false, false, false, false, false, false, false, false, false] rfl rfl (by kernel_rfl) (fun _ _ _ h => h) (Or.inl ⟨by rfl, ?_⟩) ?_ ?_
    rotate_left
    · intro w'
      go_simp
      with_reducible rfl
    rotate_left
    · simp only [Act.put, List.setIfInBounds_toArray, List.set_cons_zero, List.set_cons_succ, i64_w, i32_w]
      rfl
    refine pure_ (i := 15) (N := some 27) (v := ?_) (a' := ?_) #[true, true, true, true, true, true, true, true, true, true, true, true, true, true, true, true, false, false, false, false, false, false, false, false, false, false, false, false, false] rfl rfl (by kernel_rfl) (fun _ _ _ h => h) (Or.inl ⟨by rfl, ?_⟩) ?_ ?_
    rotate_left
    · intro w'
      go_simp
      with_reducible rfl
    rotate_left
    · simp only [Act.put, List.setIfInBounds_toArray, List.set_cons_zero, List.set_cons_succ, i64_w, i32_w]
      rfl
    refine pure_ (i := 16) (N := some 28) (v := undef) (a' := ?_) #[true, true, true, true, true, true, true, true, true, true, true, true, true, true, true, true, true, false, false, false, false, false, false, false, false, false, false, false, false] rfl rfl (by kernel_rfl) (fun _ _ _ h => h) (Or.inr ⟨by rfl, rfl⟩) ?_ ?_
    rotate_left
    · simp only [Act.put, List.setIfInBounds_toArray, List.set_cons_zero, List.set_cons_succ, i64_w, i32_w]
      rfl
    refine pure_ (i := 17) (N := some 29) (v := undef) (a' := ?_) #[true, true, true, true, true, true, true, true, true, true, true, true, true, true, true, true, true, true, false, false, false, false, false, false, false, false, false, false, false] rfl rfl (by kernel_rfl) (fun _ _ _ h => h) (Or.inr ⟨by rfl, rfl⟩) ?_ ?_
    rotate_left
    · simp only [Act.put, List.setIfInBounds_toArray, List.set_cons_zero, List.set_cons_succ, i64_w, i32_w]
      rfl
    refine pure_ (i := 18) (N := some 30) (v := undef) (a' := ?_) #[true, true, true, true, true, true, true, true, true, true, true, true, true, true, true, true, true, true, true, false, false, false, false, false, false, false, false, false, false] rfl rfl (by kernel_rfl) (fun _ _ _ h => h) (Or.inr ⟨by rfl, rfl⟩) ?_ ?_
    rotate_left
    · simp only [Act.put, List.setIfInBounds_toArray, List.set_cons_zero, List.set_cons_succ, i64_w, i32_w]
      rfl
    refine pure_ (i := 19) (N := some 31) (v := undef) (a' := ?_) #[true, true, true, true, true, true, true, true, true, true, true, true, true, true, true, true, true, true, true, true, false, false, false, false, false, false, false, false, false] rfl rfl (by kernel_rfl) (fun _ _ _ h => h) (Or.inr ⟨by rfl, rfl⟩) ?_ ?_
    rotate_left
    · simp only [Act.put, List.setIfInBounds_toArray, List.set_cons_zero, List.set_cons_succ, i64_w, i32_w]
      rfl
    refine pure_ (i := 20) (N := some 32) (v := undef) (a' := ?_) #[true, true, true, true, true, true, true, true, true, true, true, true, true, true, true, true, true, true, true, true, true, false, false, false, false, false, false, false, false] rfl rfl (by kernel_rfl) (fun _ _ _ h => h) (Or.inr ⟨by rfl, rfl⟩) ?_ ?_
    rotate_left
    · simp only [Act.put, List.setIfInBounds_toArray, List.set_cons_zero, List.set_cons_succ, i64_w, i32_w]
      rfl
    refine pure_ (i := 21) (N := some 33) (v := undef) (a' := ?_) #[true, true, true, true, true, true, true, true, true, true, true, true, true, true, true, true, true, true, true, true, true, true, false, false, false, false, false, false, false] rfl rfl (by kernel_rfl) (fun _ _ _ h => h) (Or.inr ⟨by rfl, rfl⟩) ?_ ?_
    rotate_left
    · simp only [Act.put, List.setIfInBounds_toArray, List.set_cons_zero, List.set_cons_succ, i64_w, i32_w]
      rfl
    refine pure_ (i := 22) (N := some 34) (v := ?_) (a' := ?_) #[true, true, true, true, true, true, true, true, true, true, true, true, true, true, true, true, true, true, true, true, true, true, true, false, false, false, false, false, false] rfl rfl (by kernel_rfl) (fun _ _ _ h => h) (Or.inl ⟨by rfl, ?_⟩) ?_ ?_
    rotate_left
    · intro w'
      go_simp
      with_reducible rfl
    rotate_left
    · simp only [Act.put, List.setIfInBounds_toArray, List.set_cons_zero, List.set_cons_succ, i64_w, i32_w]
      rfl
    refine pure_ (i := 23) (N := some 35) (v := ?_) (a' := ?_) #[true, true, true, true, true, true, true, true, true, true, true, true, true, true, true, true, true, true, true, true, true, true, true, true, false, false, false, false, false] rfl rfl (by kernel_rfl) (fun _ _ _ h => h) (Or.inl ⟨by rfl, ?_⟩) ?_ ?_
    rotate_left
    · intro w'
      go_simp
      with_reducible rfl
    rotate_left
    · simp only [Act.put, List.setIfInBounds_toArray, List.set_cons_zero, List.set_cons_succ, i64_w, i32_w]
      rfl
    refine pure_ (i := 24) (N := some 36) (v := undef) (a' := ?_) #[true, true, true, true, true, true, true, true, true, true, true, true, true, true, true, true, true, true, true, true, true, true, true, true, true, false, false, false, false] rfl rfl (by kernel_rfl) (fun _ _ _ h => h) (Or.inr ⟨by rfl, rfl⟩) ?_ ?_
    rotate_left
    · simp only [Act.put, List.setIfInBounds_toArray, List.set_cons_zero, List.set_cons_succ, i64_w, i32_w]
      rfl
    refine pure_ (i := 25) (N := some 37) (v := undef) (a' := ?_) #[true, true, true, true, true, true, true, true, true, true, true, true, true, true, true, true, true, true, true, true, true, true, true, true, true, true, false, false, false] rfl rfl (by kernel_rfl) (fun _ _ _ h => h) (Or.inr ⟨by rfl, rfl⟩) ?_ ?_
    rotate_left
    · simp only [Act.put, List.setIfInBounds_toArray, List.set_cons_zero, List.set_cons_succ, i64_w, i32_w]
      rfl
    refine pure_ (i := 26) (N := some 38) (v := undef) (a' := ?_) #[true, true, true, true, true, true, true, true, true, true, true, true, true, true, true, true, true, true, true, true, true, true, true, true, true, true, true, false, false] rfl rfl (by kernel_rfl) (fun _ _ _ h => h) (Or.inr ⟨by rfl, rfl⟩) ?_ ?_
    rotate_left
    · simp only [Act.put, List.setIfInBounds_toArray, List.set_cons_zero, List.set_cons_succ, i64_w, i32_w]
      rfl
    refine pure_ (i := 27) (N := some 39) (v := undef) (a' := ?_) #[true, true, true, true, true, true, true, true, true, true, true, true, true, true, true, true, true, true, true, true, true, true, true, true, true, true, true, true, false] rfl rfl (by kernel_rfl) (fun _ _ _ h => h) (Or.inr ⟨by rfl, rfl⟩) ?_ ?_
    rotate_left
    · simp only [Act.put, List.setIfInBounds_toArray, List.set_cons_zero, List.set_cons_succ, i64_w, i32_w]
      rfl
    refine pure_ (i := 28) (N := some 40) (v := ?_) (a' := ?_) #[true, true, true, true, true, true, true, true, true, true, true, true, true, true, true, true, true, true, true, true, true, true, true, true, true, true, true, true, true] rfl rfl (by kernel_rfl) (fun _ _ _ h => h) (Or.inl ⟨by rfl, ?_⟩) ?_ ?_
    rotate_left
    · intro w'
      go_simp
      with_reducible rfl
    rotate_left
    · simp only [Act.put, List.setIfInBounds_toArray, List.set_cons_zero, List.set_cons_succ, i64_w, i32_w]
      rfl
    refine done_ (by kernel_rfl) ?_
    (try clear hHeld)
    obtain ⟨hcz6_0, hcz6_1, hcz6_2, hcz6_3, hcz6_4, hcz6_5, hcz6_6, hcz6_f0, hcz6_f1, hcz6_f2, hcz6_f3, hcz6_f4, hcz6_f5, hcz6_f6⟩ := lk_c7 BK233.out
    obtain ⟨hcz7_0, hcz7_1, hcz7_2, hcz7_3, hcz7_4, hcz7_5, hcz7_6, hcz7_f0, hcz7_f1, hcz7_f2, hcz7_f3, hcz7_f4, hcz7_f5, hcz7_f6⟩ := lk_c7 BK223.out
    have hnb8_ : gb233 ≠ gb223 := (by have g1_ := HG233.out; have g2_ := HG223.out; have z_ := HLA.out; omega)
    have hnb9_ : gb223 ≠ gb233 := (by have g1_ := HG223.out; have g2_ := HG233.out; have z_ := HLA.out; omega)
    go_wp2_with (first | ((with_reducible refine gate_store (t := 31) (p := 4) rfl ?_); refine store_event (t := 31) (p := 4) (v := ?vo_lg16) (w1 := (((((((wv11.setCell ⟨gb223, 0, none⟩ (.int .i64 t224)).setCell ⟨gb223, 1, none⟩ (.int .i64 t225)).setCell ⟨gb223, 2, none⟩ (.int .i64 t226)).setCell ⟨gb223, 3, none⟩ (.int .i64 t227)).setCell ⟨gb223, 4, none⟩ (.int .i64 t228)).setCell ⟨gb223, 5, none⟩ (.slice Aq2_ t229.length cq2_)).setCell ⟨gb223, 6, none⟩ (.int .i64 t232))) ?hg ?ho ?hn ?hr ?_; (case ho => rfl); (case hg => rfl); (case hn => rfl); (case hr => first | (go_simp; done) | (go_simp; rfl)); intro wv12 hw; have hk2 := (show Kept wv11 wv12 (fun k_ => k_ = gb223) from by rw [hw]; exact (show Kept wv11 (((((((wv11.setCell ⟨gb223, 0, none⟩ (.int .i64 t224)).setCell ⟨gb223, 1, none⟩ (.int .i64 t225)).setCell ⟨gb223, 2, none⟩ (.int .i64 t226)).setCell ⟨gb223, 3, none⟩ (.int .i64 t227)).setCell ⟨gb223, 4, none⟩ (.int .i64 t228)).setCell ⟨gb223, 5, none⟩ (.slice Aq2_ t229.length cq2_)).setCell ⟨gb223, 6, none⟩ (.int .i64 t232)) (fun k_ => k_ = gb223) from by repeat (first | (with_reducible first | exact Kept.refl _ _ | apply Kept.alloc | apply Kept.drewN | apply Kept.drew) | refine Kept.setCell ?_ (.inl (by first | exact rfl | exact .inl rfl | exact .inr rfl | exact .inr (.inl rfl) | exact .inr (.inr rfl))) _ | exact Kept.refl _ _))); replace HOq2_ := Aside0.mk (Kd.R_kept HOq2_.out hk2 (fun k_ hk_ hs_ => by have i_ := HIq2_.out k_ hk_; have hs2_ : k_ = gb223 := hs_; have g0_ := HG223.out; have z_ := HLA.out; omega)); replace BK221 := Aside0.mk (blk_kept BK221.out hk2 (fun hs_ => by have hs2_ : gb221 = gb223 := hs_; have g_ := HG221.out; have g0_ := HG223.out; have z_ := HLA.out; omega)); replace BK222 := Aside0.mk (blk_kept BK222.out hk2 (fun hs_ => by have hs2_ : gb222 = gb223 := hs_; have g_ := HG222.out; have g0_ := HG223.out; have z_ := HLA.out; omega)); replace BK223 := Aside0.mk ((show wv12.heap[gb223]? = some (Obj.cells #[.int .i64 t224, .int .i64 t225, .int .i64 t226, .int .i64 t227, .int .i64 t228, .slice Aq2_ t229.length cq2_, .int .i64 t232] 31 (0, 0)) from by rw [hw]; exact (show _ = some (Obj.cells #[.int .i64 t224, .int .i64 t225, .int .i64 t226, .int .i64 t227, .int .i64 t228, .slice Aq2_ t229.length cq2_, .int .i64 t232] 31 (0, 0)) from by (with_reducible repeat (first | refine blk_drewN ?_ _ | refine blk_drew ?_ | refine blk_alloc ?_ _)); refine blk_put (cs := #[.int .i64 t224, .int .i64 t225, .int .i64 t226, .int .i64 t227, .int .i64 t228, .slice Aq2_ t229.length cq2_, .int .i64 0]) ?_ 6 _ rfl; (with_reducible repeat (first | refine blk_drewN ?_ _ | refine blk_drew ?_ | refine blk_alloc ?_ _)); refine blk_put (cs := #[.int .i64 t224, .int .i64 t225, .int .i64 t226, .int .i64 t227, .int .i64 t228, .slice none 0 0, .int .i64 0]) ?_ 5 _ rfl; (with_reducible repeat (first | refine blk_drewN ?_ _ | refine blk_drew ?_ | refine blk_alloc ?_ _)); refine blk_put (cs := #[.int .i64 t224, .int .i64 t225, .int .i64 t226, .int .i64 t227, .int .i64 0, .slice none 0 0, .int .i64 0]) ?_ 4 _ rfl; (with_reducible repeat (first | refine blk_drewN ?_ _ | refine blk_drew ?_ | refine blk_alloc ?_ _)); refine blk_put (cs := #[.int .i64 t224, .int .i64 t225, .int .i64 t226, .int .i64 0, .int .i64 0, .slice none 0 0, .int .i64 0]) ?_ 3 _ rfl; (with_reducible repeat (first | refine blk_drewN ?_ _ | refine blk_drew ?_ | refine blk_alloc ?_ _)); refine blk_put (cs := #[.int .i64 t224, .int .i64 t225, .int .i64 0, .int .i64 0, .int .i64 0, .slice none 0 0, .int .i64 0]) ?_ 2 _ rfl; (with_reducible repeat (first | refine blk_drewN ?_ _ | refine blk_drew ?_ | refine blk_alloc ?_ _)); refine blk_put (cs := #[.int .i64 t224, .int .i64 0, .int .i64 0, .int .i64 0, .int .i64 0, .slice none 0 0, .int .i64 0]) ?_ 1 _ rfl; (with_reducible repeat (first | refine blk_drewN ?_ _ | refine blk_drew ?_ | refine blk_alloc ?_ _)); refine blk_put (cs := #[.int .i64 0, .int .i64 0, .int .i64 0, .int .i64 0, .int .i64 0, .slice none 0 0, .int .i64 0]) ?_ 0 _ rfl; (with_reducible repeat (first | refine blk_drewN ?_ _ | refine blk_drew ?_ | refine blk_alloc ?_ _)); exact BK223.out))); replace BK233 := Aside0.mk (blk_kept BK233.out hk2 (fun hs_ => by have hs2_ : gb233 = gb223 := hs_; have g_ := HG233.out; have g0_ := HG223.out; have z_ := HLA.out; omega)); replace BK234 := Aside0.mk (blk_kept BK234.out hk2 (fun hs_ => by have hs2_ : gb234 = gb223 := hs_; have g_ := HG234.out; have g0_ := HG223.out; have z_ := HLA.out; omega)); replace HB := Aside0.mk ((show Below w.heap.size w wv12 from by rw [hw]; exact by repeat (first | (with_reducible first | exact HB.out | apply below_alloc | apply pw_below_drewN | apply below_drew1 | refine below_set ?_ GE223.out) | exact HB.out))); replace HLA := Aside0.mk (And.intro HLA.out (hk2.1 : wv11.heap.size ≤ wv12.heap.size)); clear hw hk2))
    refine bodyPost_ret (results_ct rfl _ _ gb223 31 #[.int .i64 t224, .int .i64 t225, .int .i64 t226, .int .i64 t227, .int .i64 t228, .slice Aq2_ t229.length cq2_, .int .i64 t232] (0, 0) _ rfl (BK223.out) Try.underlying31 rfl (by kernel_rfl)) rfl ?_
    exact ⟨_, by first | rfl | (simp [errW_none, errW_some] <;> rfl) | (simp [*] <;> rfl), Kd.R_mono HOq2_.out (fun _ _ => trivial), by repeat (first | (with_reducible first | exact HB.out | apply below_alloc | apply pw_below_drewN | apply below_drew1) | exact HB.out)⟩
  rw [if_neg c7] at H
  have c7b0 : decide (t236 < a0_6) = false := decide_eq_false c7
  clear c7
  by_cases c8 : a0_2 = 1000000
  · rw [if_pos c8] at H
    have c8b0 : (a0_2 == 1000000) = true := beq_iff_eq.mpr c8
    have c8b1 : (a0_2 != 1000000) = false := bne_eq_false_iff_eq.mpr c8
    clear c8
    simp only [Option.some.injEq, Prod.mk.injEq] at H
    obtain ⟨rfl, rfl, rfl, rfl, rfl, rfl, rfl, rfl⟩ := H
    go_enter Try.func35, Try.ntmps35
    go_wp2_with (first | ((with_reducible refine gate_dst (N := 2) rfl ?_); (try (refine gate_guard (by rfl) ?_; dsimp only)); refine box_event ?hg (N := 2) ?hd (cs := #[.int .i64 a0_0, .int .i64 a0_1, .int .i64 a0_2, .int .i64 a0_3, .int .i64 a0_4, .slice A0_5 l0_5.length c0_5, .int .i64 a0_6]) (t := 31) ?hr ?_; (case hd => rfl); (case hg => rfl); (case hr => first | (go_simp; done) | (go_simp; rfl)); intro gb221 hg wv1 hbox hb; have BK221 := Aside0.mk (hbox); have GE221 := Aside0.mk ((by rw [hg]; exact Nat.le_trans HB.out.size ((Kept.refl w (fun _ => False))).1 : w.heap.size ≤ gb221)); have HG221 := Aside0.mk ((⟨by rw [hg]; exact ((Kept.refl w (fun _ => False))).1, blk_lt hbox⟩ : w.heap.size ≤ gb221 ∧ gb221 < wv1.heap.size)); have HLA := Aside0.mk (((Kept.below (Kept.refl w (fun _ => False)) hb).1 : w.heap.size ≤ wv1.heap.size)); replace HB := Aside0.mk (below_step HB.out hb); clear hb hbox hg) | ((with_reducible refine gate_dst (N := 3) rfl ?_); (try (refine gate_guard (by rfl) ?_; dsimp only)); refine box_event ?hg (N := 3) ?hd (cs := #[.int .i64 a1_0, .int .i64 a1_1]) (t := 26) ?hr ?_; (case hd => rfl); (case hg => rfl); (case hr => first | (go_simp; done) | (go_simp; rfl)); intro gb222 hg wv2 hbox hb; have BK222 := Aside0.mk (hbox); have GE222 := Aside0.mk ((by rw [hg]; exact Nat.le_trans HB.out.size ((Kept.refl wv1 (fun _ => False))).1 : w.heap.size ≤ gb222)); have HG222 := Aside0.mk ((⟨by rw [hg]; exact ((Kept.refl wv1 (fun _ => False))).1, blk_lt hbox⟩ : wv1.heap.size ≤ gb222 ∧ gb222 < wv2.heap.size)); replace BK221 := Aside0.mk (blk_below BK221.out hb); replace HB := Aside0.mk (below_step HB.out hb); replace HLA := Aside0.mk (And.intro HLA.out ((Kept.below (Kept.refl wv1 (fun _ => False)) hb).1 : wv1.heap.size ≤ wv2.heap.size)); clear hb hbox hg) | ((with_reducible refine gate_dst (N := 4) rfl ?_); (try (refine gate_guard (by rfl) ?_; dsimp only)); refine box_event ?hg (N := 4) ?hd (cs := #[.int .i64 0, .int .i64 0, .int .i64 0, .int .i64 0, .int .i64 0, .slice none 0 0, .int .i64 0]) (t := 31) ?hr ?_; (case hd => rfl); (case hg => rfl); (case hr => first | (go_simp; done) | (go_simp; rfl)); intro gb223 hg wv3 hbox hb; have BK223 := Aside0.mk (hbox); have GE223 := Aside0.mk ((by rw [hg]; exact Nat.le_trans HB.out.size ((Kept.refl wv2 (fun _ => False))).1 : w.heap.size ≤ gb223)); have HG223 := Aside0.mk ((⟨by rw [hg]; exact ((Kept.refl wv2 (fun _ => False))).1, blk_lt hbox⟩ : wv2.heap.size ≤ gb223 ∧ gb223 < wv3.heap.size)); replace BK221 := Aside0.mk (blk_below BK221.out hb); replace BK222 := Aside0.mk (blk_below BK222.out hb); replace HB := Aside0.mk (below_step HB.out hb); replace HLA := Aside0.mk (And.intro HLA.out ((Kept.below (Kept.refl wv2 (fun _ => False)) hb).1 : wv2.heap.size ≤ wv3.heap.size)); clear hb hbox hg; obtain ⟨hcz1_0, hcz1_1, hcz1_2, hcz1_3, hcz1_4, hcz1_5, hcz1_6, hcz1_f0, hcz1_f1, hcz1_f2, hcz1_f3, hcz1_f4, hcz1_f5, hcz1_f6⟩ := lk_c7 BK221.out) | ((with_reducible refine gate_callee (f := 61) rfl ?_); refine goesL_ (some 9) rfl rfl Try.func61 (by kernel_rfl) rfl #[.agg #[.int .i64 a0_0, .int .i64 a0_1, .int .i64 a0_2, .int .i64 a0_3, .int .i64 a0_4, .slice A0_5 l0_5.length c0_5, .int .i64 a0_6]] rfl (by (try simp only [List.map_toArray, List.map_cons, List.map_nil]); first | done | rfl | (simp only [List.length_drop, List.length_take]; rfl)) ?_; (with_reducible refine (impl_copyHost.calls a0_0 a0_1 a0_2 a0_3 a0_4 _ _ l0_5 a0_6 t224 t225 t226 t227 t228 t229 t232 _ ?side1 ?side2 A3.out).mono ?_); (case side1 => exact Kd.C_below HR0_5.out (by repeat (first | (with_reducible first | exact HB.out | apply below_alloc | apply pw_below_drewN | apply below_drew1) | exact HB.out))); (case side2 => exact HC0_5.out); rintro e wv4 ⟨vq2_, rfl, ho0, hb⟩; refine ⟨_, rfl, ?_⟩; have hkW := (Kept.refl wv3 (fun _ => False)); have hk2 := Kept.below hkW hb; obtain ⟨Aq2_, cq2_, rfl⟩ := Kd.R_slice ho0; obtain ⟨okq2_, hoo0, hi0⟩ := lk_R ho0 (a := wv3.heap.size) (b := w.heap.size) hkW.1 (Nat.le_trans HB.out.size hkW.1); have HOq2_ := Aside0.mk (hoo0); have HIq2_ := Aside0.mk (hi0); replace BK221 := Aside0.mk (blk_below BK221.out hb); replace BK222 := Aside0.mk (blk_below BK222.out hb); replace BK223 := Aside0.mk (blk_below BK223.out hb); replace HB := Aside0.mk (below_step (by repeat (first | (with_reducible first | exact HB.out | apply below_alloc | apply pw_below_drewN | apply below_drew1) | exact HB.out)) hb); replace HLA := Aside0.mk (And.intro HLA.out (hk2.1 : wv3.heap.size ≤ wv4.heap.size)); (try clear hb); (try clear hkW); (try clear hk2); (try clear hkp); (try clear hoo0); (try clear hi0); (try clear ho0)) | ((with_reducible refine gate_dst (N := 6) rfl ?_); (try (refine gate_guard (by rfl) ?_; dsimp only)); refine box_event ?hg (N := 6) ?hd (cs := #[.int .i64 0, .int .i64 0, .int .i64 0, .int .i64 0, .int .i64 0, .slice none 0 0, .int .i64 0]) (t := 31) ?hr ?_; (case hd => rfl); (case hg => rfl); (case hr => first | (go_simp; done) | (go_simp; rfl)); intro gb233 hg wv5 hbox hb; have BK233 := Aside0.mk (hbox); have GE233 := Aside0.mk ((by rw [hg]; exact Nat.le_trans HB.out.size ((Kept.refl wv4 (fun _ => False))).1 : w.heap.size ≤ gb233)); have HG233 := Aside0.mk ((⟨by rw [hg]; exact ((Kept.refl wv4 (fun _ => False))).1, blk_lt hbox⟩ : wv4.heap.size ≤ gb233 ∧ gb233 < wv5.heap.size)); replace HOq2_ := Aside0.mk (Kd.R_below HOq2_.out hb); replace BK221 := Aside0.mk (blk_below BK221.out hb); replace BK222 := Aside0.mk (blk_below BK222.out hb); replace BK223 := Aside0.mk (blk_below BK223.out hb); replace HB := Aside0.mk (below_step HB.out hb); replace HLA := Aside0.mk (And.intro HLA.out ((Kept.below (Kept.refl wv4 (fun _ => False)) hb).1 : wv4.heap.size ≤ wv5.heap.size)); clear hb hbox hg; obtain ⟨hcz3_0, hcz3_1, hcz3_2, hcz3_3, hcz3_4, hcz3_5, hcz3_6, hcz3_f0, hcz3_f1, hcz3_f2, hcz3_f3, hcz3_f4, hcz3_f5, hcz3_f6⟩ := lk_c7 BK233.out) | ((with_reducible refine gate_store (t := 31) (p := 6) rfl ?_); refine store_event (t := 31) (p := 6) (v := ?vo_lg17) (w1 := (((((((wv5.setCell ⟨gb233, 0, none⟩ (.int .i64 t224)).setCell ⟨gb233, 1, none⟩ (.int .i64 t225)).setCell ⟨gb233, 2, none⟩ (.int .i64 t226)).setCell ⟨gb233, 3, none⟩ (.int .i64 t227)).setCell ⟨gb233, 4, none⟩ (.int .i64 t228)).setCell ⟨gb233, 5, none⟩ (.slice Aq2_ t229.length cq2_)).setCell ⟨gb233, 6, none⟩ (.int .i64 t232))) ?hg ?ho ?hn ?hr ?_; (case ho => rfl); (case hg => rfl); (case hn => rfl); (case hr => first | (go_simp; done) | (go_simp; rfl)); intro wv6 hw; have hk2 := (show Kept wv5 wv6 (fun k_ => k_ = gb233) from by rw [hw]; exact (show Kept wv5 (((((((wv5.setCell ⟨gb233, 0, none⟩ (.int .i64 t224)).setCell ⟨gb233, 1, none⟩ (.int .i64 t225)).setCell ⟨gb233, 2, none⟩ (.int .i64 t226)).setCell ⟨gb233, 3, none⟩ (.int .i64 t227)).setCell ⟨gb233, 4, none⟩ (.int .i64 t228)).setCell ⟨gb233, 5, none⟩ (.slice Aq2_ t229.length cq2_)).setCell ⟨gb233, 6, none⟩ (.int .i64 t232)) (fun k_ => k_ = gb233) from by repeat (first | (with_reducible first | exact Kept.refl _ _ | apply Kept.alloc | apply Kept.drewN | apply Kept.drew) | refine Kept.setCell ?_ (.inl (by first | exact rfl | exact .inl rfl | exact .inr rfl | exact .inr (.inl rfl) | exact .inr (.inr rfl))) _ | exact Kept.refl _ _))); replace HOq2_ := Aside0.mk (Kd.R_kept HOq2_.out hk2 (fun k_ hk_ hs_ => by have i_ := HIq2_.out k_ hk_; have hs2_ : k_ = gb233 := hs_; have g0_ := HG233.out; have z_ := HLA.out; omega)); replace BK221 := Aside0.mk (blk_kept BK221.out hk2 (fun hs_ => by have hs2_ : gb221 = gb233 := hs_; have g_ := HG221.out; have g0_ := HG233.out; have z_ := HLA.out; omega)); replace BK222 := Aside0.mk (blk_kept BK222.out hk2 (fun hs_ => by have hs2_ : gb222 = gb233 := hs_; have g_ := HG222.out; have g0_ := HG233.out; have z_ := HLA.out; omega)); replace BK223 := Aside0.mk (blk_kept BK223.out hk2 (fun hs_ => by have hs2_ : gb223 = gb233 := hs_; have g_ := HG223.out; have g0_ := HG233.out; have z_ := HLA.out; omega)); replace BK233 := Aside0.mk ((show wv6.heap[gb233]? = some (Obj.cells #[.int .i64 t224, .int .i64 t225, .int .i64 t226, .int .i64 t227, .int .i64 t228, .slice Aq2_ t229.length cq2_, .int .i64 t232] 31 (0, 0)) from by rw [hw]; exact (show _ = some (Obj.cells #[.int .i64 t224, .int .i64 t225, .int .i64 t226, .int .i64 t227, .int .i64 t228, .slice Aq2_ t229.length cq2_, .int .i64 t232] 31 (0, 0)) from by (with_reducible repeat (first | refine blk_drewN ?_ _ | refine blk_drew ?_ | refine blk_alloc ?_ _)); refine blk_put (cs := #[.int .i64 t224, .int .i64 t225, .int .i64 t226, .int .i64 t227, .int .i64 t228, .slice Aq2_ t229.length cq2_, .int .i64 0]) ?_ 6 _ rfl; (with_reducible repeat (first | refine blk_drewN ?_ _ | refine blk_drew ?_ | refine blk_alloc ?_ _)); refine blk_put (cs := #[.int .i64 t224, .int .i64 t225, .int .i64 t226, .int .i64 t227, .int .i64 t228, .slice none 0 0, .int .i64 0]) ?_ 5 _ rfl; (with_reducible repeat (first | refine blk_drewN ?_ _ | refine blk_drew ?_ | refine blk_alloc ?_ _)); refine blk_put (cs := #[.int .i64 t224, .int .i64 t225, .int .i64 t226, .int .i64 t227, .int .i64 0, .slice none 0 0, .int .i64 0]) ?_ 4 _ rfl; (with_reducible repeat (first | refine blk_drewN ?_ _ | refine blk_drew ?_ | refine blk_alloc ?_ _)); refine blk_put (cs := #[.int .i64 t224, .int .i64 t225, .int .i64 t226, .int .i64 0, .int .i64 0, .slice none 0 0, .int .i64 0]) ?_ 3 _ rfl; (with_reducible repeat (first | refine blk_drewN ?_ _ | refine blk_drew ?_ | refine blk_alloc ?_ _)); refine blk_put (cs := #[.int .i64 t224, .int .i64 t225, .int .i64 0, .int .i64 0, .int .i64 0, .slice none 0 0, .int .i64 0]) ?_ 2 _ rfl; (with_reducible repeat (first | refine blk_drewN ?_ _ | refine blk_drew ?_ | refine blk_alloc ?_ _)); refine blk_put (cs := #[.int .i64 t224, .int .i64 0, .int .i64 0, .int .i64 0, .int .i64 0, .slice none 0 0, .int .i64 0]) ?_ 1 _ rfl; (with_reducible repeat (first | refine blk_drewN ?_ _ | refine blk_drew ?_ | refine blk_alloc ?_ _)); refine blk_put (cs := #[.int .i64 0, .int .i64 0, .int .i64 0, .int .i64 0, .int .i64 0, .slice none 0 0, .int .i64 0]) ?_ 0 _ rfl; (with_reducible repeat (first | refine blk_drewN ?_ _ | refine blk_drew ?_ | refine blk_alloc ?_ _)); exact BK233.out))); replace HB := Aside0.mk ((show Below w.heap.size w wv6 from by rw [hw]; exact by repeat (first | (with_reducible first | exact HB.out | apply below_alloc | apply pw_below_drewN | apply below_drew1 | refine below_set ?_ GE233.out) | exact HB.out))); replace HLA := Aside0.mk (And.intro HLA.out (hk2.1 : wv5.heap.size ≤ wv6.heap.size)); clear hw hk2; obtain ⟨hcz4_0, hcz4_1, hcz4_2, hcz4_3, hcz4_4, hcz4_5, hcz4_6, hcz4_f0, hcz4_f1, hcz4_f2, hcz4_f3, hcz4_f4, hcz4_f5, hcz4_f6⟩ := lk_c7 BK221.out) | ((with_reducible refine gate_dst (N := 7) rfl ?_); (try (refine gate_guard (by rfl) ?_; dsimp only)); refine box_event ?hg (N := 7) ?hd (cs := #[.int .i64 0, .int .i64 0, .int .i64 0, .int .i64 0, .int .i64 0]) (t := 28) ?hr ?_; (case hd => rfl); (case hg => rfl); (case hr => first | (go_simp; done) | (go_simp; rfl)); intro gb234 hg wv7 hbox hb; have BK234 := Aside0.mk (hbox); have GE234 := Aside0.mk ((by rw [hg]; exact Nat.le_trans HB.out.size ((Kept.refl wv6 (fun _ => False))).1 : w.heap.size ≤ gb234)); have HG234 := Aside0.mk ((⟨by rw [hg]; exact ((Kept.refl wv6 (fun _ => False))).1, blk_lt hbox⟩ : wv6.heap.size ≤ gb234 ∧ gb234 < wv7.heap.size)); replace HOq2_ := Aside0.mk (Kd.R_below HOq2_.out hb); replace BK221 := Aside0.mk (blk_below BK221.out hb); replace BK222 := Aside0.mk (blk_below BK222.out hb); replace BK223 := Aside0.mk (blk_below BK223.out hb); replace BK233 := Aside0.mk (blk_below BK233.out hb); replace HB := Aside0.mk (below_step HB.out hb); replace HLA := Aside0.mk (And.intro HLA.out ((Kept.below (Kept.refl wv6 (fun _ => False)) hb).1 : wv6.heap.size ≤ wv7.heap.size)); clear hb hbox hg; obtain ⟨hcz5_0, hcz5_1, hcz5_2, hcz5_3, hcz5_4, hcz5_f0, hcz5_f1, hcz5_f2, hcz5_f3, hcz5_f4⟩ := lk_c5 BK234.out) | ((with_reducible refine gate_store (t := 28) (p := 7) rfl ?_); refine store_event (t := 28) (p := 7) (v := ?vo_lg18) (w1 := (((((wv7.setCell ⟨gb234, 0, none⟩ (.int .i64 a0_0)).setCell ⟨gb234, 1, none⟩ (.int .i64 a0_1)).setCell ⟨gb234, 2, none⟩ (.int .i64 a0_2)).setCell ⟨gb234, 3, none⟩ (.int .i64 a0_3)).setCell ⟨gb234, 4, none⟩ (.int .i64 a0_4))) ?hg ?ho ?hn ?hr ?_; (case ho => rfl); (case hg => rfl); (case hn => rfl); (case hr => first | (go_simp; done) | (go_simp; rfl)); intro wv8 hw; have hk2 := (show Kept wv7 wv8 (fun k_ => k_ = gb234) from by rw [hw]; exact (show Kept wv7 (((((wv7.setCell ⟨gb234, 0, none⟩ (.int .i64 a0_0)).setCell ⟨gb234, 1, none⟩ (.int .i64 a0_1)).setCell ⟨gb234, 2, none⟩ (.int .i64 a0_2)).setCell ⟨gb234, 3, none⟩ (.int .i64 a0_3)).setCell ⟨gb234, 4, none⟩ (.int .i64 a0_4)) (fun k_ => k_ = gb234) from by repeat (first | (with_reducible first | exact Kept.refl _ _ | apply Kept.alloc | apply Kept.drewN | apply Kept.drew) | refine Kept.setCell ?_ (.inl (by first | exact rfl | exact .inl rfl | exact .inr rfl | exact .inr (.inl rfl) | exact .inr (.inr rfl))) _ | exact Kept.refl _ _))); replace HOq2_ := Aside0.mk (Kd.R_kept HOq2_.out hk2 (fun k_ hk_ hs_ => by have i_ := HIq2_.out k_ hk_; have hs2_ : k_ = gb234 := hs_; have g0_ := HG234.out; have z_ := HLA.out; omega)); replace BK221 := Aside0.mk (blk_kept BK221.out hk2 (fun hs_ => by have hs2_ : gb221 = gb234 := hs_; have g_ := HG221.out; have g0_ := HG234.out; have z_ := HLA.out; omega)); replace BK222 := Aside0.mk (blk_kept BK222.out hk2 (fun hs_ => by have hs2_ : gb222 = gb234 := hs_; have g_ := HG222.out; have g0_ := HG234.out; have z_ := HLA.out; omega)); replace BK223 := Aside0.mk (blk_kept BK223.out hk2 (fun hs_ => by have hs2_ : gb223 = gb234 := hs_; have g_ := HG223.out; have g0_ := HG234.out; have z_ := HLA.out; omega)); replace BK233 := Aside0.mk (blk_kept BK233.out hk2 (fun hs_ => by have hs2_ : gb233 = gb234 := hs_; have g_ := HG233.out; have g0_ := HG234.out; have z_ := HLA.out; omega)); replace BK234 := Aside0.mk ((show wv8.heap[gb234]? = some (Obj.cells #[.int .i64 a0_0, .int .i64 a0_1, .int .i64 a0_2, .int .i64 a0_3, .int .i64 a0_4] 28 (0, 0)) from by rw [hw]; exact (show _ = some (Obj.cells #[.int .i64 a0_0, .int .i64 a0_1, .int .i64 a0_2, .int .i64 a0_3, .int .i64 a0_4] 28 (0, 0)) from by (with_reducible repeat (first | refine blk_drewN ?_ _ | refine blk_drew ?_ | refine blk_alloc ?_ _)); refine blk_put (cs := #[.int .i64 a0_0, .int .i64 a0_1, .int .i64 a0_2, .int .i64 a0_3, .int .i64 0]) ?_ 4 _ rfl; (with_reducible repeat (first | refine blk_drewN ?_ _ | refine blk_drew ?_ | refine blk_alloc ?_ _)); refine blk_put (cs := #[.int .i64 a0_0, .int .i64 a0_1, .int .i64 a0_2, .int .i64 0, .int .i64 0]) ?_ 3 _ rfl; (with_reducible repeat (first | refine blk_drewN ?_ _ | refine blk_drew ?_ | refine blk_alloc ?_ _)); refine blk_put (cs := #[.int .i64 a0_0, .int .i64 a0_1, .int .i64 0, .int .i64 0, .int .i64 0]) ?_ 2 _ rfl; (with_reducible repeat (first | refine blk_drewN ?_ _ | refine blk_drew ?_ | refine blk_alloc ?_ _)); refine blk_put (cs := #[.int .i64 a0_0, .int .i64 0, .int .i64 0, .int .i64 0, .int .i64 0]) ?_ 1 _ rfl; (with_reducible repeat (first | refine blk_drewN ?_ _ | refine blk_drew ?_ | refine blk_alloc ?_ _)); refine blk_put (cs := #[.int .i64 0, .int .i64 0, .int .i64 0, .int .i64 0, .int .i64 0]) ?_ 0 _ rfl; (with_reducible repeat (first | refine blk_drewN ?_ _ | refine blk_drew ?_ | refine blk_alloc ?_ _)); exact BK234.out))); replace HB := Aside0.mk ((show Below w.heap.size w wv8 from by rw [hw]; exact by repeat (first | (with_reducible first | exact HB.out | apply below_alloc | apply pw_below_drewN | apply below_drew1 | refine below_set ?_ GE234.out) | exact HB.out))); replace HLA := Aside0.mk (And.intro HLA.out (hk2.1 : wv7.heap.size ≤ wv8.heap.size)); clear hw hk2))
    replace HOq2_ := Aside0.mk (Kd.R_kept HOq2_.out (show Kept wv8 wv8.drew (fun k_ => False) from by repeat (first | (with_reducible first | exact Kept.refl _ _ | apply Kept.alloc | apply Kept.drewN | apply Kept.drew) | exact Kept.refl _ _)) (fun _ _ hs_ => hs_.elim))
    replace BK221 := Aside0.mk ((blk_kept BK221.out (show Kept wv8 wv8.drew (fun k_ => False) from by repeat (first | (with_reducible first | exact Kept.refl _ _ | apply Kept.alloc | apply Kept.drewN | apply Kept.drew) | exact Kept.refl _ _)) (fun hs_ => hs_.elim)))
    replace BK222 := Aside0.mk ((blk_kept BK222.out (show Kept wv8 wv8.drew (fun k_ => False) from by repeat (first | (with_reducible first | exact Kept.refl _ _ | apply Kept.alloc | apply Kept.drewN | apply Kept.drew) | exact Kept.refl _ _)) (fun hs_ => hs_.elim)))
    replace BK223 := Aside0.mk ((blk_kept BK223.out (show Kept wv8 wv8.drew (fun k_ => False) from by repeat (first | (with_reducible first | exact Kept.refl _ _ | apply Kept.alloc | apply Kept.drewN | apply Kept.drew) | exact Kept.refl _ _)) (fun hs_ => hs_.elim)))
    replace BK233 := Aside0.mk ((blk_kept BK233.out (show Kept wv8 wv8.drew (fun k_ => False) from by repeat (first | (with_reducible first | exact Kept.refl _ _ | apply Kept.alloc | apply Kept.drewN | apply Kept.drew) | exact Kept.refl _ _)) (fun hs_ => hs_.elim)))
    replace BK234 := Aside0.mk ((blk_kept BK234.out (show Kept wv8 wv8.drew (fun k_ => False) from by repeat (first | (with_reducible first | exact Kept.refl _ _ | apply Kept.alloc | apply Kept.drewN | apply Kept.drew) | exact Kept.refl _ _)) (fun hs_ => hs_.elim)))
    replace HB := Aside0.mk ((show Below w.heap.size w (wv8.drew) from by repeat (first | (with_reducible first | exact HB.out | apply below_alloc | apply pw_below_drewN | apply below_drew1) | exact HB.out)))
    replace HLA := Aside0.mk (And.intro HLA.out ((show Kept wv8 wv8.drew (fun k_ => False) from by repeat (first | (with_reducible first | exact Kept.refl _ _ | apply Kept.alloc | apply Kept.drewN | apply Kept.drew) | exact Kept.refl _ _)).1 : wv8.heap.size ≤ (wv8.drew).heap.size))
    refine start_ (n := 29) (S := fun w' => w'.cell? ⟨gb234, 0, none⟩ = some (.int .i64 a0_0) ∧ w'.cell? ⟨gb234, 1, none⟩ = some (.int .i64 a0_1) ∧ w'.cell? ⟨gb234, 2, none⟩ = some (.int .i64 a0_2) ∧ w'.cell? ⟨gb234, 3, none⟩ = some (.int .i64 a0_3) ∧ w'.cell? ⟨gb234, 4, none⟩ = some (.int .i64 a0_4) ∧ w'.cell? ⟨gb221, 0, none⟩ = some (.int .i64 a0_0) ∧ w'.cell? ⟨gb221, 1, none⟩ = some (.int .i64 a0_1) ∧ w'.cell? ⟨gb221, 2, none⟩ = some (.int .i64 a0_2) ∧ w'.cell? ⟨gb221, 3, none⟩ = some (.int .i64 a0_3) ∧ w'.cell? ⟨gb221, 4, none⟩ = some (.int .i64 a0_4) ∧ w'.cell? ⟨gb221, 5, none⟩ = some (.slice A0_5 l0_5.length c0_5) ∧ w'.cell? ⟨gb221, 6, none⟩ = some (.int .i64 a0_6)) (ds := []) #[false, false, false, false, false, false, false, false, false, false, false, false, false, false, false, false, false, false, false, false, false, false, false, false, false, false, false, false, false] (by kernel_rfl) rfl rfl (lk_t5 BK234.out (lk_e7 BK221.out)) (fun hHeld => ?_)
    generalize wv8.drew = wv9 at HOq2_ BK221 BK222 BK223 BK233 BK234 HB HLA hHeld ⊢
    refine take_ (i := 0) (N := some 12) (v := ?_) (a' := ?_) #[true, false, false, false, false, false, false, false, false, false, false, false, false, false, false, false, false, false, false, false, false, false, false, false, false, false, false, false, false] rfl rfl (by kernel_rfl) (fun _ _ _ h => h) (Or.inl ⟨by rfl, ?_⟩) hHeld ?_ ?_
    rotate_left
    · rintro w' ⟨s0, s1, s2, s3, s4, s5, s6, s7, s8, s9, s10, s11⟩
      go_simp
      with_reducible rfl
    rotate_left
    · simp only [Act.put, List.setIfInBounds_toArray, List.set_cons_zero, List.set_cons_succ, i64_w, i32_w]
      rfl
    refine one_ (i := 1) (N := some 13) #[true, true, false, false, false, false, false, false, false, false, false, false, false, false, false, false, false, false, false, false, false, false, false, false, false, false, false, false, false] rfl rfl (by kernel_rfl) (by decide) (fun K hK => ?_)
    refine goes_ Try.func22 (by kernel_rfl) rfl #[.agg #[.int .i64 a0_0, .int .i64 a0_1, .int .i64 a0_2, .int .i64 a0_3, .int .i64 a0_4]] (by rfl) rfl rfl (by (try simp only [List.map_toArray, List.map_cons, List.map_nil]); first | done | rfl | (simp only [List.length_drop, List.length_take]; rfl)) ?_
    (with_reducible refine (impl_IsValidKeeper.calls a0_0 a0_1 a0_2 a0_3 a0_4 true _  A4.out).mono ?_)
    rintro e wv10 ⟨rfl, hb⟩
    refine ⟨_, rfl, ?_⟩
    have hkW := (Kept.refl wv9 (fun _ => False))
    have hk2 := Kept.below hkW hb
    replace HOq2_ := Aside0.mk (Kd.R_below HOq2_.out hb)
    replace BK221 := Aside0.mk (blk_below BK221.out hb)
    replace BK222 := Aside0.mk (blk_below BK222.out hb)
    replace BK223 := Aside0.mk (blk_below BK223.out hb)
    replace BK233 := Aside0.mk (blk_below BK233.out hb)
    replace BK234 := Aside0.mk (blk_below BK234.out hb)
    replace HB := Aside0.mk (below_step (by repeat (first | (with_reducible first | exact HB.out | apply below_alloc | apply pw_below_drewN | apply below_drew1) | exact HB.out)) hb)
    replace HLA := Aside0.mk (And.intro HLA.out (hk2.1 : wv9.heap.size ≤ wv10.heap.size))
    (try clear hb)
    (try clear hkW)
    (try clear hk2)
    (try clear hkp)
    refine hK.out _ _ (lk_t5 BK234.out (lk_e7 BK221.out)) (fun hHeld => ?_)
    clear hK K
    refine norm_ (a' := ?_) ?_ ?_
    rotate_left
    · show Act.put _ (some 13) _ = _
      simp only [Act.put, List.setIfInBounds_toArray, List.set_cons_zero, List.set_cons_succ, i64_w, i32_w]
      rfl
    refine pure_ (i := 2) (N := some 14) (v := ?_) (a' := ?_) #[true, true, true, false, false, false, false, false, false, false, false, false, false, false, false, false, false, false, false, false, false, false, false, false, false, false, false, false, false] rfl rfl (by kernel_rfl) (fun _ _ _ h => h) (Or.inl ⟨by rfl, ?_⟩) ?_ ?_
    rotate_left
    · intro w'
      go_simp
      with_reducible rfl
    rotate_left
    · simp only [Act.put, List.setIfInBounds_toArray, List.set_cons_zero, List.set_cons_succ, i64_w, i32_w]
      rfl
    refine pure_ (i := 3) (N := some 15) (v := ?_) (a' := ?_) #[true, true, true, true, false, false, false, false, false, false, false, false, false, false, false, false, false, false, false, false, false, false, false, false, false, false, false, false, false] rfl rfl (by kernel_rfl) (fun _ _ _ h => h) (Or.inl ⟨by rfl, ?_⟩) ?_ ?_
    rotate_left
    · intro w'
      go_simp
      with_reducible rfl
    rotate_left
    · simp only [Act.put, List.setIfInBounds_toArray, List.set_cons_zero, List.set_cons_succ, i64_w, i32_w]
      rfl
    refine pure_ (i := 6) (N := some 18) (v := ?_) (a' := ?_) #[true, true, true, true, false, false, true, false, false, false, false, false, false, false, false, false, false, false, false, false, false, false, false, false, false, false, false, false, false] rfl rfl (by kernel_rfl) (fun _ _ _ h => h) (Or.inl ⟨by rfl, ?_⟩) ?_ ?_
    rotate_left
    · intro w'
      go_simp
      with_reducible rfl
    rotate_left
    · simp only [Act.put, List.setIfInBounds_toArray, List.set_cons_zero, List.set_cons_succ, i64_w, i32_w]
      rfl
    refine take_ (i := 4) (N := some 16) (v := ?_) (a' := ?_) #[true, true, true, true, true, false, true, false, false, false, false, false, false, false, false, false, false, false, false, false, false, false, false, false, false, false, false, false, false] rfl rfl (by kernel_rfl) (fun _ _ _ h => h) (Or.inl ⟨by rfl, ?_⟩) hHeld ?_ ?_
    rotate_left
    · rintro w' ⟨s0, s1, s2, s3, s4, s5, s6, s7, s8, s9, s10, s11⟩
      go_simp
      with_reducible rfl
    rotate_left
    · simp only [Act.put, List.setIfInBounds_toArray, List.set_cons_zero, List.set_cons_succ, i64_w, i32_w]
      rfl
    refine take_ (i := 7) (N := some 19) (v := ?_) (a' := ?_) #[true, true, true, true, true, false, true, true, false, false, false, false, false, false, false, false, false, false, false, false, false, false, false, false, false, false, false, false, false] rfl rfl (by kernel_rfl) (fun _ _ _ h => h) (Or.inl ⟨by rfl, ?_⟩) hHeld ?_ ?_
    rotate_left
    · rintro w' ⟨s0, s1, s2, s3, s4, s5, s6, s7, s8, s9, s10, s11⟩
      go_simp
      with_reducible rfl
    rotate_left
    · simp only [Act.put, List.setIfInBounds_toArray, List.set_cons_zero, List.set_cons_succ, i64_w, i32_w]
      rfl
    refine one_ (i := 5) (N := some 17) #[true, true, true, true, true, true, true, true, false, false, false, false, false, false, false, false, false, false, false, false, false, false, false, false, false, false, false, false, false] rfl rfl (by kernel_rfl) (by decide) (fun K hK => ?_)
    refine goes_ Try.func60 (by kernel_rfl) rfl #[.agg #[.int .i64 a0_0, .int .i64 a0_1, .int .i64 a0_2, .int .i64 a0_3, .int .i64 a0_4]] (by rfl) rfl rfl (by (try simp only [List.map_toArray, List.map_cons, List.map_nil]); first | done | rfl | (simp only [List.length_drop, List.length_take]; rfl)) ?_
    (with_reducible refine (impl_progress.calls a0_0 a0_1 a0_2 a0_3 a0_4 t236 _  A6.out).mono ?_)
    rintro e wv11 ⟨rfl, hb⟩
    refine ⟨_, rfl, ?_⟩
    have hkW := (Kept.refl wv10 (fun _ => False))
    have hk2 := Kept.below hkW hb
    replace HOq2_ := Aside0.mk (Kd.R_below HOq2_.out hb)
    replace BK221 := Aside0.mk (blk_below BK221.out hb)
    replace BK222 := Aside0.mk (blk_below BK222.out hb)
    replace BK223 := Aside0.mk (blk_below BK223.out hb)
    replace BK233 := Aside0.mk (blk_below BK233.out hb)
    replace BK234 := Aside0.mk (blk_below BK234.out hb)
    replace HB := Aside0.mk (below_step (by repeat (first | (with_reducible first | exact HB.out | apply below_alloc | apply pw_below_drewN | apply below_drew1) | exact HB.out)) hb)
    replace HLA := Aside0.mk (And.intro HLA.out (hk2.1 : wv10.heap.size ≤ wv11.heap.size))
    (try clear hb)
    (try clear hkW)
    (try clear hk2)
    (try clear hkp)
    refine hK.out _ _ (lk_t5 BK234.out (lk_e7 BK221.out)) (fun hHeld => ?_)
    clear hK K
    refine norm_ (a' := ?_) ?_ ?_
    rotate_left
    · show Act.put _ (some 17) _ = _
      simp only [Act.put, List.setIfInBounds_toArray, List.set_cons_zero, List.set_cons_succ, i64_w, i32_w]
      rfl
    refine pure_ (i := 8) (N := some 20) (v := ?_) (a' := ?_) #[true, true, true, true, true, true, true, true, true, false, false, false, false, false, false, false, false, false, false, false, false, false, false, false, false, false, false, false, false] rfl rfl (by kernel_rfl) (fun _ _ _ h => h) (Or.inl ⟨by rfl, ?_⟩) ?_ ?_
    rotate_left
    · intro w'
      go_simp
      with_reducible rfl
    rotate_left
    · simp only [Act.put, List.setIfInBounds_toArray, List.set_cons_zero, List.set_cons_succ, i64_w, i32_w]
      rfl
    refine pure_ (i := 9) (N := some 21) (v := ?_) (a' := ?_) #[true, true, true, true, true, true, true, true, true, true, false, false, false, false, false, false, false, false, false, false, false, false, false, false, false, false, false, false, false] rfl rfl (by kernel_rfl) (fun _ _ _ h => h) (Or.inl ⟨by rfl, ?_⟩) ?_ ?_
    rotate_left
    · intro w'
      go_simp
      with_reducible rfl
    rotate_left
    · simp only [Act.put, List.setIfInBounds_toArray, List.set_cons_zero, List.set_cons_succ, i64_w, i32_w]
      rfl
    refine pure_ (i := 10) (N := some 22) (v := ?_) (a' := ?_) #[true, true, true, true, true, true, true, true, true, true, true, false, false, false, false, false, false, false, false, false, false, false, false, false, false, false, false, false, false] rfl rfl (by kernel_rfl) (fun _ _ _ h => h) (Or.inl ⟨by rfl, ?_⟩) ?_ ?_
    rotate_left
    · intro w'
      go_simp
      with_reducible rfl
    rotate_left
    · simp only [Act.put, List.setIfInBounds_toArray, List.set_cons_zero, List.set_cons_succ, i64_w, i32_w]
      rfl
    refine pure_ (i := 11) (N := some 23) (v := ?_) (a' := ?_) #[true, true, true, true, true, true, true, true, true, true, true, true, false, false, false, false, false, false, false, false, false, false, false, false, false, false, false, false, false] rfl rfl (by kernel_rfl) (fun _ _ _ h => h) (Or.inl ⟨by rfl, ?_⟩) ?_ ?_
    rotate_left
    · intro w'
      go_simp
      with_reducible rfl
    rotate_left
    · simp only [Act.put, List.setIfInBounds_toArray, List.set_cons_zero, List.set_cons_succ, i64_w, i32_w]
      rfl
    refine take_ (i := 12) (N := some 24) (v := ?_) (a' := ?_) #[true, true, true, true, true, true, true, true, true, true, true, true, true, false, false, false, false, false, false, false, false, false, false, false, false, false, false, false, false] rfl rfl (by kernel_rfl) (fun _ _ _ h => h) (Or.inl ⟨by rfl, ?_⟩) hHeld ?_ ?_
    rotate_left
    · rintro w' ⟨s0, s1, s2, s3, s4, s5, s6, s7, s8, s9, s10, s11⟩
      go_simp
      with_reducible rfl
    rotate_left
    · simp only [Act.put, List.setIfInBounds_toArray, List.set_cons_zero, List.set_cons_succ, i64_w, i32_w]
      rfl
    refine pure_ (i := 13) (N := some 25) (v := ?_) (a' := ?_) #[true, true, true, true, true, true, true, true, true, true, true, true, true, true, false, false, false, false, false, false, false, false, false, false, false, false, false, false, false] rfl rfl (by kernel_rfl) (fun _ _ _ h => h) (Or.inl ⟨by rfl, ?_⟩) ?_ ?_
    rotate_left
    · intro w'
      go_simp
      with_reducible rfl
    rotate_left
    · simp only [Act.put, List.setIfInBounds_toArray, List.set_cons_zero, List.set_cons_succ, i64_w, i32_w]
      rfl
    refine pure_ (i := 14) (N := some 26) (v := ?_) (a' := ?_) #[true, true, true, true, true, true, true, true, true, true, true, true, true, true, true, false, false, false, false, false, false, false, false, false, false, false, false, false, false] rfl rfl (by kernel_rfl) (fun _ _ _ h => h) (Or.inl ⟨by rfl, ?_⟩) ?_ ?_
    rotate_left
    · intro w'
      go_simp
      with_reducible rfl
    rotate_left
    · simp only [Act.put, List.setIfInBounds_toArray, List.set_cons_zero, List.set_cons_succ, i64_w, i32_w]
      rfl
    refine pure_ (i := 15) (N := some 27) (v := ?_) (a' := ?_) #[true, true, true, true, true, true, true, true, true, true, true, true, true, true, true, true, false, false, false, false, false, false, false, false, false, false, false, false, false] rfl rfl (by kernel_rfl) (fun _ _ _ h => h) (Or.inl ⟨by rfl, ?_⟩) ?_ ?_
    rotate_left
    · intro w'
      go_simp
      with_reducible rfl
    rotate_left
    · simp only [Act.put, List.setIfInBounds_toArray, List.set_cons_zero, List.set_cons_succ, i64_w, i32_w]
      rfl
    refine pure_ (i := 16) (N := some 28) (v := undef) (a' := ?_) #[true, true, true, true, true, true, true, true, true, true, true, true, true, true, true, true, true, false, false, false, false, false, false, false, false, false, false, false, false] rfl rfl (by kernel_rfl) (fun _ _ _ h => h) (Or.inr ⟨by rfl, rfl⟩) ?_ ?_
    rotate_left
    · simp only [Act.put, List.setIfInBounds_toArray, List.set_cons_zero, List.set_cons_succ, i64_w, i32_w]
      rfl
    refine pure_ (i := 17) (N := some 29) (v := undef) (a' := ?_) #[true, true, true, true, true, true, true, true, true, true, true, true, true, true, true, true, true, true, false, false, false, false, false, false, false, false, false, false, false] rfl rfl (by kernel_rfl) (fun _ _ _ h => h) (Or.inr ⟨by rfl, rfl⟩) ?_ ?_
    rotate_left
    · simp only [Act.put, List.setIfInBounds_toArray, List.set_cons_zero, List.set_cons_succ, i64_w, i32_w]
      rfl
    refine pure_ (i := 18) (N := some 30) (v := undef) (a' := ?_) #[true, true, true, true, true, true, true, true, true, true, true, true, true, true, true, true, true, true, true, false, false, false, false, false, false, false, false, false, false] rfl rfl (by kernel_rfl) (fun _ _ _ h => h) (Or.inr ⟨by rfl, rfl⟩) ?_ ?_
    rotate_left
    · simp only [Act.put, List.setIfInBounds_toArray, List.set_cons_zero, List.set_cons_succ, i64_w, i32_w]
      rfl
    refine pure_ (i := 19) (N := some 31) (v := undef) (a' := ?_) #[true, true, true, true, true, true, true, true, true, true, true, true, true, true, true, true, true, true, true, true, false, false, false, false, false, false, false, false, false] rfl rfl (by kernel_rfl) (fun _ _ _ h => h) (Or.inr ⟨by rfl, rfl⟩) ?_ ?_
    rotate_left
    · simp only [Act.put, List.setIfInBounds_toArray, List.set_cons_zero, List.set_cons_succ, i64_w, i32_w]
      rfl
    refine pure_ (i := 20) (N := some 32) (v := undef) (a' := ?_) #[true, true, true, true, true, true, true, true, true, true, true, true, true, true, true, true, true, true, true, true, true, false, false, false, false, false, false, false, false] rfl rfl (by kernel_rfl) (fun _ _ _ h => h) (Or.inr ⟨by rfl, rfl⟩) ?_ ?_
    rotate_left
    · simp only [Act.put, List.setIfInBounds_toArray, List.set_cons_zero, List.set_cons_succ, i64_w, i32_w]
      rfl
    refine pure_ (i := 21) (N := some 33) (v := undef) (a' := ?_) #[true, true, true, true, true, true, true, true, true, true, true, true, true, true, true, true, true, true, true, true, true, true, false, false, false, false, false, false, false] rfl rfl (by kernel_rfl) (fun _ _ _ h => h) (Or.inr ⟨by rfl, rfl⟩) ?_ ?_
    rotate_left
    · simp only [Act.put, List.setIfInBounds_toArray, List.set_cons_zero, List.set_cons_succ, i64_w, i32_w]
      rfl
    refine pure_ (i := 22) (N := some 34) (v := ?_) (a' := ?_) #[true, true, true, true, true, true, true, true, true, true, true, true, true, true, true, true, true, true, true, true, true, true, true, false, false, false, false, false, false] rfl rfl (by kernel_rfl) (fun _ _ _ h => h) (Or.inl ⟨by rfl, ?_⟩) ?_ ?_
    rotate_left
    · intro w'
      go_simp
      with_reducible rfl
    rotate_left
    · simp only [Act.put, List.setIfInBounds_toArray, List.set_cons_zero, List.set_cons_succ, i64_w, i32_w]
      rfl
    refine pure_ (i := 23) (N := some 35) (v := ?_) (a' := ?_) #[true, true, true, true, true, true, true, true, true, true, true, true, true, true, true, true, true, true, true, true, true, true, true, true, false, false, false, false, false] rfl rfl (by kernel_rfl) (fun _ _ _ h => h) (Or.inl ⟨by rfl, ?_⟩) ?_ ?_
    rotate_left
    · intro w'
      go_simp
      with_reducible rfl
    rotate_left
    · simp only [Act.put, List.setIfInBounds_toArray, List.set_cons_zero, List.set_cons_succ, i64_w, i32_w]
      rfl
    refine pure_ (i := 24) (N := some 36) (v := undef) (a' := ?_) #[true, true, true, true, true, true, true, true, true, true, true, true, true, true, true, true, true, true, true, true, true, true, true, true, true, false, false, false, false] rfl rfl (by kernel_rfl) (fun _ _ _ h => h) (Or.inr ⟨by rfl, rfl⟩) ?_ ?_
    rotate_left
    · simp only [Act.put, List.setIfInBounds_toArray, List.set_cons_zero, List.set_cons_succ, i64_w, i32_w]
      rfl
    refine pure_ (i := 25) (N := some 37) (v := undef) (a' := ?_) #[true, true, true, true, true, true, true, true, true, true, true, true, true, true, true, true, true, true, true, true, true, true, true, true, true, true, false, false, false] rfl rfl (by kernel_rfl) (fun _ _ _ h => h) (Or.inr ⟨by rfl, rfl⟩) ?_ ?_
    rotate_left
    · simp only [Act.put, List.setIfInBounds_toArray, List.set_cons_zero, List.set_cons_succ, i64_w, i32_w]
      rfl
    refine pure_ (i := 26) (N := some 38) (v := undef) (a' := ?_) #[true, true, true, true, true, true, true, true, true, true, true, true, true, true, true, true, true, true, true, true, true, true, true, true, true, true, true, false, false] rfl rfl (by kernel_rfl) (fun _ _ _ h => h) (Or.inr ⟨by rfl, rfl⟩) ?_ ?_
    rotate_left
    · simp only [Act.put, List.setIfInBounds_toArray, List.set_cons_zero, List.set_cons_succ, i64_w, i32_w]
      rfl
    refine pure_ (i := 27) (N := some 39) (v := undef) (a' := ?_) #[true, true, true, true, true, true, true, true, true, true, true, true, true, true, true, true, true, true, true, true, true, true, true, true, true, true, true, true, false] rfl rfl (by kernel_rfl) (fun _ _ _ h => h) (Or.inr ⟨by rfl, rfl⟩) ?_ ?_
    rotate_left
    · simp only [Act.put, List.setIfInBounds_toArray, List.set_cons_zero, List.set_cons_succ, i64_w, i32_w]
      rfl
    refine pure_ (i := 28) (N := some 40) (v := ?_) (a' := ?_) #[true, true, true, true, true, true, true, true, true, true, true, true, true, true, true, true, true, true, true, true, true, true, true, true, true, true, true, true, true] rfl rfl (by kernel_rfl) (fun _ _ _ h => h) (Or.inl ⟨by rfl, ?_⟩) ?_ ?_
    rotate_left
    · intro w'
      go_simp
      with_reducible rfl
    rotate_left
    · simp only [Act.put, List.setIfInBounds_toArray, List.set_cons_zero, List.set_cons_succ, i64_w, i32_w]
      rfl
    refine done_ (by kernel_rfl) ?_
    (try clear hHeld)
    obtain ⟨hcz6_0, hcz6_1, hcz6_2, hcz6_3, hcz6_4, hcz6_5, hcz6_6, hcz6_f0, hcz6_f1, hcz6_f2, hcz6_f3, hcz6_f4, hcz6_f5, hcz6_f6⟩ := lk_c7 BK233.out
    obtain ⟨hcz7_0, hcz7_1, hcz7_2, hcz7_3, hcz7_4, hcz7_5, hcz7_6, hcz7_f0, hcz7_f1, hcz7_f2, hcz7_f3, hcz7_f4, hcz7_f5, hcz7_f6⟩ := lk_c7 BK223.out
    have hnb8_ : gb233 ≠ gb223 := (by have g1_ := HG233.out; have g2_ := HG223.out; have z_ := HLA.out; omega)
    have hnb9_ : gb223 ≠ gb233 := (by have g1_ := HG223.out; have g2_ := HG233.out; have z_ := HLA.out; omega)
    go_wp2_with (first | ((with_reducible refine gate_store (t := 31) (p := 4) rfl ?_); refine store_event (t := 31) (p := 4) (v := ?vo_lg19) (w1 := (((((((wv11.setCell ⟨gb223, 0, none⟩ (.int .i64 t224)).setCell ⟨gb223, 1, none⟩ (.int .i64 t225)).setCell ⟨gb223, 2, none⟩ (.int .i64 t226)).setCell ⟨gb223, 3, none⟩ (.int .i64 t227)).setCell ⟨gb223, 4, none⟩ (.int .i64 t228)).setCell ⟨gb223, 5, none⟩ (.slice Aq2_ t229.length cq2_)).setCell ⟨gb223, 6, none⟩ (.int .i64 t232))) ?hg ?ho ?hn ?hr ?_; (case ho => rfl); (case hg => rfl); (case hn => rfl); (case hr => first | (go_simp; done) | (go_simp; rfl)); intro wv12 hw; have hk2 := (show Kept wv11 wv12 (fun k_ => k_ = gb223) from by rw [hw]; exact (show Kept wv11 (((((((wv11.setCell ⟨gb223, 0, none⟩ (.int .i64 t224)).setCell ⟨gb223, 1, none⟩ (.int .i64 t225)).setCell ⟨gb223, 2, none⟩ (.int .i64 t226)).setCell ⟨gb223, 3, none⟩ (.int .i64 t227)).setCell ⟨gb223, 4, none⟩ (.int .i64 t228)).setCell ⟨gb223, 5, none⟩ (.slice Aq2_ t229.length cq2_)).setCell ⟨gb223, 6, none⟩ (.int .i64 t232)) (fun k_ => k_ = gb223) from by repeat (first | (with_reducible first | exact Kept.refl _ _ | apply Kept.alloc | apply Kept.drewN | apply Kept.drew) | refine Kept.setCell ?_ (.inl (by first | exact rfl | exact .inl rfl | exact .inr rfl | exact .inr (.inl rfl) | exact .inr (.inr rfl))) _ | exact Kept.refl _ _))); replace HOq2_ := Aside0.mk (Kd.R_kept HOq2_.out hk2 (fun k_ hk_ hs_ => by have i_ := HIq2_.out k_ hk_; have hs2_ : k_ = gb223 := hs_; have g0_ := HG223.out; have z_ := HLA.out; omega)); replace BK221 := Aside0.mk (blk_kept BK221.out hk2 (fun hs_ => by have hs2_ : gb221 = gb223 := hs_; have g_ := HG221.out; have g0_ := HG223.out; have z_ := HLA.out; omega)); replace BK222 := Aside0.mk (blk_kept BK222.out hk2 (fun hs_ => by have hs2_ : gb222 = gb223 := hs_; have g_ := HG222.out; have g0_ := HG223.out; have z_ := HLA.out; omega)); replace BK223 := Aside0.mk ((show wv12.heap[gb223]? = some (Obj.cells #[.int .i64 t224, .int .i64 t225, .int .i64 t226, .int .i64 t227, .int .i64 t228, .slice Aq2_ t229.length cq2_, .int .i64 t232] 31 (0, 0)) from by rw [hw]; exact (show _ = some (Obj.cells #[.int .i64 t224, .int .i64 t225, .int .i64 t226, .int .i64 t227, .int .i64 t228, .slice Aq2_ t229.length cq2_, .int .i64 t232] 31 (0, 0)) from by (with_reducible repeat (first | refine blk_drewN ?_ _ | refine blk_drew ?_ | refine blk_alloc ?_ _)); refine blk_put (cs := #[.int .i64 t224, .int .i64 t225, .int .i64 t226, .int .i64 t227, .int .i64 t228, .slice Aq2_ t229.length cq2_, .int .i64 0]) ?_ 6 _ rfl; (with_reducible repeat (first | refine blk_drewN ?_ _ | refine blk_drew ?_ | refine blk_alloc ?_ _)); refine blk_put (cs := #[.int .i64 t224, .int .i64 t225, .int .i64 t226, .int .i64 t227, .int .i64 t228, .slice none 0 0, .int .i64 0]) ?_ 5 _ rfl; (with_reducible repeat (first | refine blk_drewN ?_ _ | refine blk_drew ?_ | refine blk_alloc ?_ _)); refine blk_put (cs := #[.int .i64 t224, .int .i64 t225, .int .i64 t226, .int .i64 t227, .int .i64 0, .slice none 0 0, .int .i64 0]) ?_ 4 _ rfl; (with_reducible repeat (first | refine blk_drewN ?_ _ | refine blk_drew ?_ | refine blk_alloc ?_ _)); refine blk_put (cs := #[.int .i64 t224, .int .i64 t225, .int .i64 t226, .int .i64 0, .int .i64 0, .slice none 0 0, .int .i64 0]) ?_ 3 _ rfl; (with_reducible repeat (first | refine blk_drewN ?_ _ | refine blk_drew ?_ | refine blk_alloc ?_ _)); refine blk_put (cs := #[.int .i64 t224, .int .i64 t225, .int .i64 0, .int .i64 0, .int .i64 0, .slice none 0 0, .int .i64 0]) ?_ 2 _ rfl; (with_reducible repeat (first | refine blk_drewN ?_ _ | refine blk_drew ?_ | refine blk_alloc ?_ _)); refine blk_put (cs := #[.int .i64 t224, .int .i64 0, .int .i64 0, .int .i64 0, .int .i64 0, .slice none 0 0, .int .i64 0]) ?_ 1 _ rfl; (with_reducible repeat (first | refine blk_drewN ?_ _ | refine blk_drew ?_ | refine blk_alloc ?_ _)); refine blk_put (cs := #[.int .i64 0, .int .i64 0, .int .i64 0, .int .i64 0, .int .i64 0, .slice none 0 0, .int .i64 0]) ?_ 0 _ rfl; (with_reducible repeat (first | refine blk_drewN ?_ _ | refine blk_drew ?_ | refine blk_alloc ?_ _)); exact BK223.out))); replace BK233 := Aside0.mk (blk_kept BK233.out hk2 (fun hs_ => by have hs2_ : gb233 = gb223 := hs_; have g_ := HG233.out; have g0_ := HG223.out; have z_ := HLA.out; omega)); replace BK234 := Aside0.mk (blk_kept BK234.out hk2 (fun hs_ => by have hs2_ : gb234 = gb223 := hs_; have g_ := HG234.out; have g0_ := HG223.out; have z_ := HLA.out; omega)); replace HB := Aside0.mk ((show Below w.heap.size w wv12 from by rw [hw]; exact by repeat (first | (with_reducible first | exact HB.out | apply below_alloc | apply pw_below_drewN | apply below_drew1 | refine below_set ?_ GE223.out) | exact HB.out))); replace HLA := Aside0.mk (And.intro HLA.out (hk2.1 : wv11.heap.size ≤ wv12.heap.size)); clear hw hk2))
    refine bodyPost_ret (results_ct rfl _ _ gb223 31 #[.int .i64 t224, .int .i64 t225, .int .i64 t226, .int .i64 t227, .int .i64 t228, .slice Aq2_ t229.length cq2_, .int .i64 t232] (0, 0) _ rfl (BK223.out) Try.underlying31 rfl (by kernel_rfl)) rfl ?_
    exact ⟨_, by first | rfl | (simp [errW_none, errW_some] <;> rfl) | (simp [*] <;> rfl), Kd.R_mono HOq2_.out (fun _ _ => trivial), by repeat (first | (with_reducible first | exact HB.out | apply below_alloc | apply pw_below_drewN | apply below_drew1) | exact HB.out)⟩
  rw [if_neg c8] at H
  have c8b0 : (a0_2 == 1000000) = false := beq_eq_false_iff_ne.mpr c8
  have c8b1 : (a0_2 != 1000000) = true := bne_iff_ne.mpr c8
  by_cases c9 : a1_0 = a0_0
  rotate_left
  · rw [if_neg c9] at H
    have c9b0 : (a1_0 == a0_0) = false := beq_eq_false_iff_ne.mpr c9
    have c9b1 : (a1_0 != a0_0) = true := bne_iff_ne.mpr c9
    simp only [Option.some.injEq, Prod.mk.injEq] at H
    obtain ⟨rfl, rfl, rfl, rfl, rfl, rfl, rfl, rfl⟩ := H
    go_enter Try.func35, Try.ntmps35
    go_wp2_with (first | ((with_reducible refine gate_dst (N := 2) rfl ?_); (try (refine gate_guard (by rfl) ?_; dsimp only)); refine box_event ?hg (N := 2) ?hd (cs := #[.int .i64 a0_0, .int .i64 a0_1, .int .i64 a0_2, .int .i64 a0_3, .int .i64 a0_4, .slice A0_5 l0_5.length c0_5, .int .i64 a0_6]) (t := 31) ?hr ?_; (case hd => rfl); (case hg => rfl); (case hr => first | (go_simp; done) | (go_simp; rfl)); intro gb221 hg wv1 hbox hb; have BK221 := Aside0.mk (hbox); have GE221 := Aside0.mk ((by rw [hg]; exact Nat.le_trans HB.out.size ((Kept.refl w (fun _ => False))).1 : w.heap.size ≤ gb221)); have HG221 := Aside0.mk ((⟨by rw [hg]; exact ((Kept.refl w (fun _ => False))).1, blk_lt hbox⟩ : w.heap.size ≤ gb221 ∧ gb221 < wv1.heap.size)); have HLA := Aside0.mk (((Kept.below (Kept.refl w (fun _ => False)) hb).1 : w.heap.size ≤ wv1.heap.size)); replace HB := Aside0.mk (below_step HB.out hb); clear hb hbox hg) | ((with_reducible refine gate_dst (N := 3) rfl ?_); (try (refine gate_guard (by rfl) ?_; dsimp only)); refine box_event ?hg (N := 3) ?hd (cs := #[.int .i64 a1_0, .int .i64 a1_1]) (t := 26) ?hr ?_; (case hd => rfl); (case hg => rfl); (case hr => first | (go_simp; done) | (go_simp; rfl)); intro gb222 hg wv2 hbox hb; have BK222 := Aside0.mk (hbox); have GE222 := Aside0.mk ((by rw [hg]; exact Nat.le_trans HB.out.size ((Kept.refl wv1 (fun _ => False))).1 : w.heap.size ≤ gb222)); have HG222 := Aside0.mk ((⟨by rw [hg]; exact ((Kept.refl wv1 (fun _ => False))).1, blk_lt hbox⟩ : wv1.heap.size ≤ gb222 ∧ gb222 < wv2.heap.size)); replace BK221 := Aside0.mk (blk_below BK221.out hb); replace HB := Aside0.mk (below_step HB.out hb); replace HLA := Aside0.mk (And.intro HLA.out ((Kept.below (Kept.refl wv1 (fun _ => False)) hb).1 : wv1.heap.size ≤ wv2.heap.size)); clear hb hbox hg) | ((with_reducible refine gate_dst (N := 4) rfl ?_); (try (refine gate_guard (by rfl) ?_; dsimp only)); refine box_event ?hg (N := 4) ?hd (cs := #[.int .i64 0, .int .i64 0, .int .i64 0, .int .i64 0, .int .i64 0, .slice none 0 0, .int .i64 0]) (t := 31) ?hr ?_; (case hd => rfl); (case hg => rfl); (case hr => first | (go_simp; done) | (go_simp; rfl)); intro gb223 hg wv3 hbox hb; have BK223 := Aside0.mk (hbox); have GE223 := Aside0.mk ((by rw [hg]; exact Nat.le_trans HB.out.size ((Kept.refl wv2 (fun _ => False))).1 : w.heap.size ≤ gb223)); have HG223 := Aside0.mk ((⟨by rw [hg]; exact ((Kept.refl wv2 (fun _ => False))).1, blk_lt hbox⟩ : wv2.heap.size ≤ gb223 ∧ gb223 < wv3.heap.size)); replace BK221 := Aside0.mk (blk_below BK221.out hb); replace BK222 := Aside0.mk (blk_below BK222.out hb); replace HB := Aside0.mk (below_step HB.out hb); replace HLA := Aside0.mk (And.intro HLA.out ((Kept.below (Kept.refl wv2 (fun _ => False)) hb).1 : wv2.heap.size ≤ wv3.heap.size)); clear hb hbox hg; obtain ⟨hcz1_0, hcz1_1, hcz1_2, hcz1_3, hcz1_4, hcz1_5, hcz1_6, hcz1_f0, hcz1_f1, hcz1_f2, hcz1_f3, hcz1_f4, hcz1_f5, hcz1_f6⟩ := lk_c7 BK221.out) | ((with_reducible refine gate_callee (f := 61) rfl ?_); refine goesL_ (some 9) rfl rfl Try.func61 (by kernel_rfl) rfl #[.agg #[.int .i64 a0_0, .int .i64 a0_1, .int .i64 a0_2, .int .i64 a0_3, .int .i64 a0_4, .slice A0_5 l0_5.length c0_5, .int .i64 a0_6]] rfl (by (try simp only [List.map_toArray, List.map_cons, List.map_nil]); first | done | rfl | (simp only [List.length_drop, List.length_take]; rfl)) ?_; (with_reducible refine (impl_copyHost.calls a0_0 a0_1 a0_2 a0_3 a0_4 _ _ l0_5 a0_6 t224 t225 t226 t227 t228 t229 t232 _ ?side1 ?side2 A3.out).mono ?_); (case side1 => exact Kd.C_below HR0_5.out (by repeat (first | (with_reducible first | exact HB.out | apply below_alloc | apply pw_below_drewN | apply below_drew1) | exact HB.out))); (case side2 => exact HC0_5.out); rintro e wv4 ⟨vq2_, rfl, ho0, hb⟩; refine ⟨_, rfl, ?_⟩; have hkW := (Kept.refl wv3 (fun _ => False)); have hk2 := Kept.below hkW hb; obtain ⟨Aq2_, cq2_, rfl⟩ := Kd.R_slice ho0; obtain ⟨okq2_, hoo0, hi0⟩ := lk_R ho0 (a := wv3.heap.size) (b := w.heap.size) hkW.1 (Nat.le_trans HB.out.size hkW.1); have HOq2_ := Aside0.mk (hoo0); have HIq2_ := Aside0.mk (hi0); replace BK221 := Aside0.mk (blk_below BK221.out hb); replace BK222 := Aside0.mk (blk_below BK222.out hb); replace BK223 := Aside0.mk (blk_below BK223.out hb); replace HB := Aside0.mk (below_step (by repeat (first | (with_reducible first | exact HB.out | apply below_alloc | apply pw_below_drewN | apply below_drew1) | exact HB.out)) hb); replace HLA := Aside0.mk (And.intro HLA.out (hk2.1 : wv3.heap.size ≤ wv4.heap.size)); (try clear hb); (try clear hkW); (try clear hk2); (try clear hkp); (try clear hoo0); (try clear hi0); (try clear ho0)) | ((with_reducible refine gate_dst (N := 6) rfl ?_); (try (refine gate_guard (by rfl) ?_; dsimp only)); refine box_event ?hg (N := 6) ?hd (cs := #[.int .i64 0, .int .i64 0, .int .i64 0, .int .i64 0, .int .i64 0, .slice none 0 0, .int .i64 0]) (t := 31) ?hr ?_; (case hd => rfl); (case hg => rfl); (case hr => first | (go_simp; done) | (go_simp; rfl)); intro gb233 hg wv5 hbox hb; have BK233 := Aside0.mk (hbox); have GE233 := Aside0.mk ((by rw [hg]; exact Nat.le_trans HB.out.size ((Kept.refl wv4 (fun _ => False))).1 : w.heap.size ≤ gb233)); have HG233 := Aside0.mk ((⟨by rw [hg]; exact ((Kept.refl wv4 (fun _ => False))).1, blk_lt hbox⟩ : wv4.heap.size ≤ gb233 ∧ gb233 < wv5.heap.size)); replace HOq2_ := Aside0.mk (Kd.R_below HOq2_.out hb); replace BK221 := Aside0.mk (blk_below BK221.out hb); replace BK222 := Aside0.mk (blk_below BK222.out hb); replace BK223 := Aside0.mk (blk_below BK223.out hb); replace HB := Aside0.mk (below_step HB.out hb); replace HLA := Aside0.mk (And.intro HLA.out ((Kept.below (Kept.refl wv4 (fun _ => False)) hb).1 : wv4.heap.size ≤ wv5.heap.size)); clear hb hbox hg; obtain ⟨hcz3_0, hcz3_1, hcz3_2, hcz3_3, hcz3_4, hcz3_5, hcz3_6, hcz3_f0, hcz3_f1, hcz3_f2, hcz3_f3, hcz3_f4, hcz3_f5, hcz3_f6⟩ := lk_c7 BK233.out) | ((with_reducible refine gate_store (t := 31) (p := 6) rfl ?_); refine store_event (t := 31) (p := 6) (v := ?vo_lg29) (w1 := (((((((wv5.setCell ⟨gb233, 0, none⟩ (.int .i64 t224)).setCell ⟨gb233, 1, none⟩ (.int .i64 t225)).setCell ⟨gb233, 2, none⟩ (.int .i64 t226)).setCell ⟨gb233, 3, none⟩ (.int .i64 t227)).setCell ⟨gb233, 4, none⟩ (.int .i64 t228)).setCell ⟨gb233, 5, none⟩ (.slice Aq2_ t229.length cq2_)).setCell ⟨gb233, 6, none⟩ (.int .i64 t232))) ?hg ?ho ?hn ?hr ?_; (case ho => rfl); (case hg => rfl); (case hn => rfl); (case hr => first | (go_simp; done) | (go_simp; rfl)); intro wv6 hw; have hk2 := (show Kept wv5 wv6 (fun k_ => k_ = gb233) from by rw [hw]; exact (show Kept wv5 (((((((wv5.setCell ⟨gb233, 0, none⟩ (.int .i64 t224)).setCell ⟨gb233, 1, none⟩ (.int .i64 t225)).setCell ⟨gb233, 2, none⟩ (.int .i64 t226)).setCell ⟨gb233, 3, none⟩ (.int .i64 t227)).setCell ⟨gb233, 4, none⟩ (.int .i64 t228)).setCell ⟨gb233, 5, none⟩ (.slice Aq2_ t229.length cq2_)).setCell ⟨gb233, 6, none⟩ (.int .i64 t232)) (fun k_ => k_ = gb233) from by repeat (first | (with_reducible first | exact Kept.refl _ _ | apply Kept.alloc | apply Kept.drewN | apply Kept.drew) | refine Kept.setCell ?_ (.inl (by first | exact rfl | exact .inl rfl | exact .inr rfl | exact .inr (.inl rfl) | exact .inr (.inr rfl))) _ | exact Kept.refl _ _))); replace HOq2_ := Aside0.mk (Kd.R_kept HOq2_.out hk2 (fun k_ hk_ hs_ => by have i_ := HIq2_.out k_ hk_; have hs2_ : k_ = gb233 := hs_; have g0_ := HG233.out; have z_ := HLA.out; omega)); replace BK221 := Aside0.mk (blk_kept BK221.out hk2 (fun hs_ => by have hs2_ : gb221 = gb233 := hs_; have g_ := HG221.out; have g0_ := HG233.out; have z_ := HLA.out; omega)); replace BK222 := Aside0.mk (blk_kept BK222.out hk2 (fun hs_ => by have hs2_ : gb222 = gb233 := hs_; have g_ := HG222.out; have g0_ := HG233.out; have z_ := HLA.out; omega)); replace BK223 := Aside0.mk (blk_kept BK223.out hk2 (fun hs_ => by have hs2_ : gb223 = gb233 := hs_; have g_ := HG223.out; have g0_ := HG233.out; have z_ := HLA.out; omega)); replace BK233 := Aside0.mk ((show wv6.heap[gb233]? = some (Obj.cells #[.int .i64 t224, .int .i64 t225, .int .i64 t226, .int .i64 t227, .int .i64 t228, .slice Aq2_ t229.length cq2_, .int .i64 t232] 31 (0, 0)) from by rw [hw]; exact (show _ = some (Obj.cells #[.int .i64 t224, .int .i64 t225, .int .i64 t226, .int .i64 t227, .int .i64 t228, .slice Aq2_ t229.length cq2_, .int .i64 t232] 31 (0, 0)) from by (with_reducible repeat (first | refine blk_drewN ?_ _ | refine blk_drew ?_ | refine blk_alloc ?_ _)); refine blk_put (cs := #[.int .i64 t224, .int .i64 t225, .int .i64 t226, .int .i64 t227, .int .i64 t228, .slice Aq2_ t229.length cq2_, .int .i64 0]) ?_ 6 _ rfl; (with_reducible repeat (first | refine blk_drewN ?_ _ | refine blk_drew ?_ | refine blk_alloc ?_ _)); refine blk_put (cs := #[.int .i64 t224, .int .i64 t225, .int .i64 t226, .int .i64 t227, .int .i64 t228, .slice none 0 0, .int .i64 0]) ?_ 5 _ rfl; (with_reducible repeat (first | refine blk_drewN ?_ _ | refine blk_drew ?_ | refine blk_alloc ?_ _)); refine blk_put (cs := #[.int .i64 t224, .int .i64 t225, .int .i64 t226, .int .i64 t227, .int .i64 0, .slice none 0 0, .int .i64 0]) ?_ 4 _ rfl; (with_reducible repeat (first | refine blk_drewN ?_ _ | refine blk_drew ?_ | refine blk_alloc ?_ _)); refine blk_put (cs := #[.int .i64 t224, .int .i64 t225, .int .i64 t226, .int .i64 0, .int .i64 0, .slice none 0 0, .int .i64 0]) ?_ 3 _ rfl; (with_reducible repeat (first | refine blk_drewN ?_ _ | refine blk_drew ?_ | refine blk_alloc ?_ _)); refine blk_put (cs := #[.int .i64 t224, .int .i64 t225, .int .i64 0, .int .i64 0, .int .i64 0, .slice none 0 0, .int .i64 0]) ?_ 2 _ rfl; (with_reducible repeat (first | refine blk_drewN ?_ _ | refine blk_drew ?_ | refine blk_alloc ?_ _)); refine blk_put (cs := #[.int .i64 t224, .int .i64 0, .int .i64 0, .int .i64 0, .int .i64 0, .slice none 0 0, .int .i64 0]) ?_ 1 _ rfl; (with_reducible repeat (first | refine blk_drewN ?_ _ | refine blk_drew ?_ | refine blk_alloc ?_ _)); refine blk_put (cs := #[.int .i64 0, .int .i64 0, .int .i64 0, .int .i64 0, .int .i64 0, .slice none 0 0, .int .i64 0]) ?_ 0 _ rfl; (with_reducible repeat (first | refine blk_drewN ?_ _ | refine blk_drew ?_ | refine blk_alloc ?_ _)); exact BK233.out))); replace HB := Aside0.mk ((show Below w.heap.size w wv6 from by rw [hw]; exact by repeat (first | (with_reducible first | exact HB.out | apply below_alloc | apply pw_below_drewN | apply below_drew1 | refine below_set ?_ GE233.out) | exact HB.out))); replace HLA := Aside0.mk (And.intro HLA.out (hk2.1 : wv5.heap.size ≤ wv6.heap.size)); clear hw hk2; obtain ⟨hcz4_0, hcz4_1, hcz4_2, hcz4_3, hcz4_4, hcz4_5, hcz4_6, hcz4_f0, hcz4_f1, hcz4_f2, hcz4_f3, hcz4_f4, hcz4_f5, hcz4_f6⟩ := lk_c7 BK221.out) | ((with_reducible refine gate_dst (N := 7) rfl ?_); (try (refine gate_guard (by rfl) ?_; dsimp only)); refine box_event ?hg (N := 7) ?hd (cs := #[.int .i64 0, .int .i64 0, .int .i64 0, .int .i64 0, .int .i64 0]) (t := 28) ?hr ?_; (case hd => rfl); (case hg => rfl); (case hr => first | (go_simp; done) | (go_simp; rfl)); intro gb234 hg wv7 hbox hb; have BK234 := Aside0.mk (hbox); have GE234 := Aside0.mk ((by rw [hg]; exact Nat.le_trans HB.out.size ((Kept.refl wv6 (fun _ => False))).1 : w.heap.size ≤ gb234)); have HG234 := Aside0.mk ((⟨by rw [hg]; exact ((Kept.refl wv6 (fun _ => False))).1, blk_lt hbox⟩ : wv6.heap.size ≤ gb234 ∧ gb234 < wv7.heap.size)); replace HOq2_ := Aside0.mk (Kd.R_below HOq2_.out hb); replace BK221 := Aside0.mk (blk_below BK221.out hb); replace BK222 := Aside0.mk (blk_below BK222.out hb); replace BK223 := Aside0.mk (blk_below BK223.out hb); replace BK233 := Aside0.mk (blk_below BK233.out hb); replace HB := Aside0.mk (below_step HB.out hb); replace HLA := Aside0.mk (And.intro HLA.out ((Kept.below (Kept.refl wv6 (fun _ => False)) hb).1 : wv6.heap.size ≤ wv7.heap.size)); clear hb hbox hg; obtain ⟨hcz5_0, hcz5_1, hcz5_2, hcz5_3, hcz5_4, hcz5_f0, hcz5_f1, hcz5_f2, hcz5_f3, hcz5_f4⟩ := lk_c5 BK234.out) | ((with_reducible refine gate_store (t := 28) (p := 7) rfl ?_); refine store_event (t := 28) (p := 7) (v := ?vo_lg30) (w1 := (((((wv7.setCell ⟨gb234, 0, none⟩ (.int .i64 a0_0)).setCell ⟨gb234, 1, none⟩ (.int .i64 a0_1)).setCell ⟨gb234, 2, none⟩ (.int .i64 a0_2)).setCell ⟨gb234, 3, none⟩ (.int .i64 a0_3)).setCell ⟨gb234, 4, none⟩ (.int .i64 a0_4))) ?hg ?ho ?hn ?hr ?_; (case ho => rfl); (case hg => rfl); (case hn => rfl); (case hr => first | (go_simp; done) | (go_simp; rfl)); intro wv8 hw; have hk2 := (show Kept wv7 wv8 (fun k_ => k_ = gb234) from by rw [hw]; exact (show Kept wv7 (((((wv7.setCell ⟨gb234, 0, none⟩ (.int .i64 a0_0)).setCell ⟨gb234, 1, none⟩ (.int .i64 a0_1)).setCell ⟨gb234, 2, none⟩ (.int .i64 a0_2)).setCell ⟨gb234, 3, none⟩ (.int .i64 a0_3)).setCell ⟨gb234, 4, none⟩ (.int .i64 a0_4)) (fun k_ => k_ = gb234) from by repeat (first | (with_reducible first | exact Kept.refl _ _ | apply Kept.alloc | apply Kept.drewN | apply Kept.drew) | refine Kept.setCell ?_ (.inl (by first | exact rfl | exact .inl rfl | exact .inr rfl | exact .inr (.inl rfl) | exact .inr (.inr rfl))) _ | exact Kept.refl _ _))); replace HOq2_ := Aside0.mk (Kd.R_kept HOq2_.out hk2 (fun k_ hk_ hs_ => by have i_ := HIq2_.out k_ hk_; have hs2_ : k_ = gb234 := hs_; have g0_ := HG234.out; have z_ := HLA.out; omega)); replace BK221 := Aside0.mk (blk_kept BK221.out hk2 (fun hs_ => by have hs2_ : gb221 = gb234 := hs_; have g_ := HG221.out; have g0_ := HG234.out; have z_ := HLA.out; omega)); replace BK222 := Aside0.mk (blk_kept BK222.out hk2 (fun hs_ => by have hs2_ : gb222 = gb234 := hs_; have g_ := HG222.out; have g0_ := HG234.out; have z_ := HLA.out; omega)); replace BK223 := Aside0.mk (blk_kept BK223.out hk2 (fun hs_ => by have hs2_ : gb223 = gb234 := hs_; have g_ := HG223.out; have g0_ := HG234.out; have z_ := HLA.out; omega)); replace BK233 := Aside0.mk (blk_kept BK233.out hk2 (fun hs_ => by have hs2_ : gb233 = gb234 := hs_; have g_ := HG233.out; have g0_ := HG234.out; have z_ := HLA.out; omega)); replace BK234 := Aside0.mk ((show wv8.heap[gb234]? = some (Obj.cells #[.int .i64 a0_0, .int .i64 a0_1, .int .i64 a0_2, .int .i64 a0_3, .int .i64 a0_4] 28 (0, 0)) from by rw [hw]; exact (show _ = some (Obj.cells #[.int .i64 a0_0, .int .i64 a0_1, .int .i64 a0_2, .int .i64 a0_3, .int .i64 a0_4] 28 (0, 0)) from by (with_reducible repeat (first | refine blk_drewN ?_ _ | refine blk_drew ?_ | refine blk_alloc ?_ _)); refine blk_put (cs := #[.int .i64 a0_0, .int .i64 a0_1, .int .i64 a0_2, .int .i64 a0_3, .int .i64 0]) ?_ 4 _ rfl; (with_reducible repeat (first | refine blk_drewN ?_ _ | refine blk_drew ?_ | refine blk_alloc ?_ _)); refine blk_put (cs := #[.int .i64 a0_0, .int .i64 a0_1, .int .i64 a0_2, .int .i64 0, .int .i64 0]) ?_ 3 _ rfl; (with_reducible repeat (first | refine blk_drewN ?_ _ | refine blk_drew ?_ | refine blk_alloc ?_ _)); refine blk_put (cs := #[.int .i64 a0_0, .int .i64 a0_1, .int .i64 0, .int .i64 0, .int .i64 0]) ?_ 2 _ rfl; (with_reducible repeat (first | refine blk_drewN ?_ _ | refine blk_drew ?_ | refine blk_alloc ?_ _)); refine blk_put (cs := #[.int .i64 a0_0, .int .i64 0, .int .i64 0, .int .i64 0, .int .i64 0]) ?_ 1 _ rfl; (with_reducible repeat (first | refine blk_drewN ?_ _ | refine blk_drew ?_ | refine blk_alloc ?_ _)); refine blk_put (cs := #[.int .i64 0, .int .i64 0, .int .i64 0, .int .i64 0, .int .i64 0]) ?_ 0 _ rfl; (with_reducible repeat (first | refine blk_drewN ?_ _ | refine blk_drew ?_ | refine blk_alloc ?_ _)); exact BK234.out))); replace HB := Aside0.mk ((show Below w.heap.size w wv8 from by rw [hw]; exact by repeat (first | (with_reducible first | exact HB.out | apply below_alloc | apply pw_below_drewN | apply below_drew1 | refine below_set ?_ GE234.out) | exact HB.out))); replace HLA := Aside0.mk (And.intro HLA.out (hk2.1 : wv7.heap.size ≤ wv8.heap.size)); clear hw hk2))
    replace HOq2_ := Aside0.mk (Kd.R_kept HOq2_.out (show Kept wv8 wv8.drew (fun k_ => False) from by repeat (first | (with_reducible first | exact Kept.refl _ _ | apply Kept.alloc | apply Kept.drewN | apply Kept.drew) | exact Kept.refl _ _)) (fun _ _ hs_ => hs_.elim))
    replace BK221 := Aside0.mk ((blk_kept BK221.out (show Kept wv8 wv8.drew (fun k_ => False) from by repeat (first | (with_reducible first | exact Kept.refl _ _ | apply Kept.alloc | apply Kept.drewN | apply Kept.drew) | exact Kept.refl _ _)) (fun hs_ => hs_.elim)))
    replace BK222 := Aside0.mk ((blk_kept BK222.out (show Kept wv8 wv8.drew (fun k_ => False) from by repeat (first | (with_reducible first | exact Kept.refl _ _ | apply Kept.alloc | apply Kept.drewN | apply Kept.drew) | exact Kept.refl _ _)) (fun hs_ => hs_.elim)))
    replace BK223 := Aside0.mk ((blk_kept BK223.out (show Kept wv8 wv8.drew (fun k_ => False) from by repeat (first | (with_reducible first | exact Kept.refl _ _ | apply Kept.alloc | apply Kept.drewN | apply Kept.drew) | exact Kept.refl _ _)) (fun hs_ => hs_.elim)))
    replace BK233 := Aside0.mk ((blk_kept BK233.out (show Kept wv8 wv8.drew (fun k_ => False) from by repeat (first | (with_reducible first | exact Kept.refl _ _ | apply Kept.alloc | apply Kept.drewN | apply Kept.drew) | exact Kept.refl _ _)) (fun hs_ => hs_.elim)))
    replace BK234 := Aside0.mk ((blk_kept BK234.out (show Kept wv8 wv8.drew (fun k_ => False) from by repeat (first | (with_reducible first | exact Kept.refl _ _ | apply Kept.alloc | apply Kept.drewN | apply Kept.drew) | exact Kept.refl _ _)) (fun hs_ => hs_.elim)))
    replace HB := Aside0.mk ((show Below w.heap.size w (wv8.drew) from by repeat (first | (with_reducible first | exact HB.out | apply below_alloc | apply pw_below_drewN | apply below_drew1) | exact HB.out)))
    replace HLA := Aside0.mk (And.intro HLA.out ((show Kept wv8 wv8.drew (fun k_ => False) from by repeat (first | (with_reducible first | exact Kept.refl _ _ | apply Kept.alloc | apply Kept.drewN | apply Kept.drew) | exact Kept.refl _ _)).1 : wv8.heap.size ≤ (wv8.drew).heap.size))
    refine start_ (n := 29) (S := fun w' => w'.cell? ⟨gb234, 0, none⟩ = some (.int .i64 a0_0) ∧ w'.cell? ⟨gb234, 1, none⟩ = some (.int .i64 a0_1) ∧ w'.cell? ⟨gb234, 2, none⟩ = some (.int .i64 a0_2) ∧ w'.cell? ⟨gb234, 3, none⟩ = some (.int .i64 a0_3) ∧ w'.cell? ⟨gb234, 4, none⟩ = some (.int .i64 a0_4) ∧ w'.cell? ⟨gb221, 0, none⟩ = some (.int .i64 a0_0) ∧ w'.cell? ⟨gb221, 1, none⟩ = some (.int .i64 a0_1) ∧ w'.cell? ⟨gb221, 2, none⟩ = some (.int .i64 a0_2) ∧ w'.cell? ⟨gb221, 3, none⟩ = some (.int .i64 a0_3) ∧ w'.cell? ⟨gb221, 4, none⟩ = some (.int .i64 a0_4) ∧ w'.cell? ⟨gb221, 5, none⟩ = some (.slice A0_5 l0_5.length c0_5) ∧ w'.cell? ⟨gb221, 6, none⟩ = some (.int .i64 a0_6) ∧ w'.cell? ⟨gb222, 0, none⟩ = some (.int .i64 a1_0) ∧ w'.cell? ⟨gb222, 1, none⟩ = some (.int .i64 a1_1)) (ds := []) #[false, false, false, false, false, false, false, false, false, false, false, false, false, false, false, false, false, false, false, false, false, false, false, false, false, false, false, false, false] (by kernel_rfl) rfl rfl (lk_t5 BK234.out (lk_t7 BK221.out (lk_e2 BK222.out))) (fun hHeld => ?_)
    generalize wv8.drew = wv9 at HOq2_ BK221 BK222 BK223 BK233 BK234 HB HLA hHeld ⊢
    refine take_ (i := 0) (N := some 12) (v := ?_) (a' := ?_) #[true, false, false, false, false, false, false, false, false, false, false, false, false, false, false, false, false, false, false, false, false, false, false, false, false, false, false, false, false] rfl rfl (by kernel_rfl) (fun _ _ _ h => h) (Or.inl ⟨by rfl, ?_⟩) hHeld ?_ ?_
    rotate_left
    · rintro w' ⟨s0, s1, s2, s3, s4, s5, s6, s7, s8, s9, s10, s11, s12, s13⟩
      go_simp
      with_reducible rfl
    rotate_left
    · simp only [Act.put, List.setIfInBounds_toArray, List.set_cons_zero, List.set_cons_succ, i64_w, i32_w]
      rfl
    refine one_ (i := 1) (N := some 13) #[true, true, false, false, false, false, false, false, false, false, false, false, false, false, false, false, false, false, false, false, false, false, false, false, false, false, false, false, false] rfl rfl (by kernel_rfl) (by decide) (fun K hK => ?_)
    refine goes_ Try.func22 (by kernel_rfl) rfl #[.agg #[.int .i64 a0_0, .int .i64 a0_1, .int .i64 a0_2, .int .i64 a0_3, .int .i64 a0_4]] (by rfl) rfl rfl (by (try simp only [List.map_toArray, List.map_cons, List.map_nil]); first | done | rfl | (simp only [List.length_drop, List.length_take]; rfl)) ?_
    (with_reducible refine (impl_IsValidKeeper.calls a0_0 a0_1 a0_2 a0_3 a0_4 true _  A4.out).mono ?_)
    rintro e wv10 ⟨rfl, hb⟩
    refine ⟨_, rfl, ?_⟩
    have hkW := (Kept.refl wv9 (fun _ => False))
    have hk2 := Kept.below hkW hb
    replace HOq2_ := Aside0.mk (Kd.R_below HOq2_.out hb)
    replace BK221 := Aside0.mk (blk_below BK221.out hb)
    replace BK222 := Aside0.mk (blk_below BK222.out hb)
    replace BK223 := Aside0.mk (blk_below BK223.out hb)
    replace BK233 := Aside0.mk (blk_below BK233.out hb)
    replace BK234 := Aside0.mk (blk_below BK234.out hb)
    replace HB := Aside0.mk (below_step (by repeat (first | (with_reducible first | exact HB.out | apply below_alloc | apply pw_below_drewN | apply below_drew1) | exact HB.out)) hb)
    replace HLA := Aside0.mk (And.intro HLA.out (hk2.1 : wv9.heap.size ≤ wv10.heap.size))
    (try clear hb)
    (try clear hkW)
    (try clear hk2)
    (try clear hkp)
    refine hK.out _ _ (lk_t5 BK234.out (lk_t7 BK221.out (lk_e2 BK222.out))) (fun hHeld => ?_)
    clear hK K
    refine norm_ (a' := ?_) ?_ ?_
    rotate_left
    · show Act.put _ (some 13) _ = _
      simp only [Act.put, List.setIfInBounds_toArray, List.set_cons_zero, List.set_cons_succ, i64_w, i32_w]
      rfl
    refine pure_ (i := 2) (N := some 14) (v := ?_) (a' := ?_) #[true, true, true, false, false, false, false, false, false, false, false, false, false, false, false, false, false, false, false, false, false, false, false, false, false, false, false, false, false] rfl rfl (by kernel_rfl) (fun _ _ _ h => h) (Or.inl ⟨by rfl, ?_⟩) ?_ ?_
    rotate_left
    · intro w'
      go_simp
      with_reducible rfl
    rotate_left
    · simp only [Act.put, List.setIfInBounds_toArray, List.set_cons_zero, List.set_cons_succ, i64_w, i32_w]
      rfl
    refine pure_ (i := 3) (N := some 15) (v := ?_) (a' := ?_) #[true, true, true, true, false, false, false, false, false, false, false, false, false, false, false, false, false, false, false, false, false, false, false, false, false, false, false, false, false] rfl rfl (by kernel_rfl) (fun _ _ _ h => h) (Or.inl ⟨by rfl, ?_⟩) ?_ ?_
    rotate_left
    · intro w'
      go_simp
      with_reducible rfl
    rotate_left
    · simp only [Act.put, List.setIfInBounds_toArray, List.set_cons_zero, List.set_cons_succ, i64_w, i32_w]
      rfl
    refine pure_ (i := 6) (N := some 18) (v := ?_) (a' := ?_) #[true, true, true, true, false, false, true, false, false, false, false, false, false, false, false, false, false, false, false, false, false, false, false, false, false, false, false, false, false] rfl rfl (by kernel_rfl) (fun _ _ _ h => h) (Or.inl ⟨by rfl, ?_⟩) ?_ ?_
    rotate_left
    · intro w'
      go_simp
      with_reducible rfl
    rotate_left
    · simp only [Act.put, List.setIfInBounds_toArray, List.set_cons_zero, List.set_cons_succ, i64_w, i32_w]
      rfl
    refine take_ (i := 4) (N := some 16) (v := ?_) (a' := ?_) #[true, true, true, true, true, false, true, false, false, false, false, false, false, false, false, false, false, false, false, false, false, false, false, false, false, false, false, false, false] rfl rfl (by kernel_rfl) (fun _ _ _ h => h) (Or.inl ⟨by rfl, ?_⟩) hHeld ?_ ?_
    rotate_left
    · rintro w' ⟨s0, s1, s2, s3, s4, s5, s6, s7, s8, s9, s10, s11, s12, s13⟩
      go_simp
      with_reducible rfl
    rotate_left
    · simp only [Act.put, List.setIfInBounds_toArray, List.set_cons_zero, List.set_cons_succ, i64_w, i32_w]
      rfl
    refine take_ (i := 7) (N := some 19) (v := ?_) (a' := ?_) #[true, true, true, true, true, false, true, true, false, false, false, false, false, false, false, false, false, false, false, false, false, false, false, false, false, false, false, false, false] rfl rfl (by kernel_rfl) (fun _ _ _ h => h) (Or.inl ⟨by rfl, ?_⟩) hHeld ?_ ?_
    rotate_left
    · rintro w' ⟨s0, s1, s2, s3, s4, s5, s6, s7, s8, s9, s10, s11, s12, s13⟩
      go_simp
      with_reducible rfl
    rotate_left
    · simp only [Act.put, List.setIfInBounds_toArray, List.set_cons_zero, List.set_cons_succ, i64_w, i32_w]
      rfl
    refine one_ (i := 5) (N := some 17) #[true, true, true, true, true, true, true, true, false, false, false, false, false, false, false, false, false, false, false, false, false, false, false, false, false, false, false, false, false] rfl rfl (by kernel_rfl) (by decide) (fun K hK => ?_)
    refine goes_ Try.func60 (by kernel_rfl) rfl #[.agg #[.int .i64 a0_0, .int .i64 a0_1, .int .i64 a0_2, .int .i64 a0_3, .int .i64 a0_4]] (by rfl) rfl rfl (by (try simp only [List.map_toArray, List.map_cons, List.map_nil]); first | done | rfl | (simp only [List.length_drop, List.length_take]; rfl)) ?_
    (with_reducible refine (impl_progress.calls a0_0 a0_1 a0_2 a0_3 a0_4 t236 _  A6.out).mono ?_)
    rintro e wv11 ⟨rfl, hb⟩
    refine ⟨_, rfl, ?_⟩
    have hkW := (Kept.refl wv10 (fun _ => False))
    have hk2 := Kept.below hkW hb
    replace HOq2_ := Aside0.mk (Kd.R_below HOq2_.out hb)
    replace BK221 := Aside0.mk (blk_below BK221.out hb)
    replace BK222 := Aside0.mk (blk_below BK222.out hb)
    replace BK223 := Aside0.mk (blk_below BK223.out hb)
    replace BK233 := Aside0.mk (blk_below BK233.out hb)
    replace BK234 := Aside0.mk (blk_below BK234.out hb)
    replace HB := Aside0.mk (below_step (by repeat (first | (with_reducible first | exact HB.out | apply below_alloc | apply pw_below_drewN | apply below_drew1) | exact HB.out)) hb)
    replace HLA := Aside0.mk (And.intro HLA.out (hk2.1 : wv10.heap.size ≤ wv11.heap.size))
    (try clear hb)
    (try clear hkW)
    (try clear hk2)
    (try clear hkp)
    refine hK.out _ _ (lk_t5 BK234.out (lk_t7 BK221.out (lk_e2 BK222.out))) (fun hHeld => ?_)
    clear hK K
    refine norm_ (a' := ?_) ?_ ?_
    rotate_left
    · show Act.put _ (some 17) _ = _
      simp only [Act.put, List.setIfInBounds_toArray, List.set_cons_zero, List.set_cons_succ, i64_w, i32_w]
      rfl
    refine pure_ (i := 8) (N := some 20) (v := ?_) (a' := ?_) #[true, true, true, true, true, true, true, true, true, false, false, false, false, false, false, false, false, false, false, false, false, false, false, false, false, false, false, false, false] rfl rfl (by kernel_rfl) (fun _ _ _ h => h) (Or.inl ⟨by rfl, ?_⟩) ?_ ?_
    rotate_left
    · intro w'
      go_simp
      with_reducible rfl
    rotate_left
    · simp only [Act.put, List.setIfInBounds_toArray, List.set_cons_zero, List.set_cons_succ, i64_w, i32_w]
      rfl
    refine pure_ (i := 9) (N := some 21) (v := ?_) (a' := ?_) #[true, true, true, true, true, true, true, true, true, true, false, false, false, false, false, false, false, false, false, false, false, false, false, false, false, false, false, false, false] rfl rfl (by kernel_rfl) (fun _ _ _ h => h) (Or.inl ⟨by rfl, ?_⟩) ?_ ?_
    rotate_left
    · intro w'
      go_simp
      with_reducible rfl
    rotate_left
    · simp only [Act.put, List.setIfInBounds_toArray, List.set_cons_zero, List.set_cons_succ, i64_w, i32_w]
      rfl
    refine pure_ (i := 10) (N := some 22) (v := ?_) (a' := ?_) #[true, true, true, true, true, true, true, true, true, true, true, false, false, false, false, false, false, false, false, false, false, false, false, false, false, false, false, false, false] rfl rfl (by kernel_rfl) (fun _ _ _ h => h) (Or.inl ⟨by rfl, ?_⟩) ?_ ?_
    rotate_left
    · intro w'
      go_simp
      with_reducible rfl
    rotate_left
    · simp only [Act.put, List.setIfInBounds_toArray, List.set_cons_zero, List.set_cons_succ, i64_w, i32_w]
      rfl
    refine pure_ (i := 11) (N := some 23) (v := ?_) (a' := ?_) #[true, true, true, true, true, true, true, true, true, true, true, true, false, false, false, false, false, false, false, false, false, false, false, false, false, false, false, false, false] rfl rfl (by kernel_rfl) (fun _ _ _ h => h) (Or.inl ⟨by rfl, ?_⟩) ?_ ?_
    rotate_left
    · intro w'
      go_simp
      with_reducible rfl
    rotate_left
    · simp only [Act.put, List.setIfInBounds_toArray, List.set_cons_zero, List.set_cons_succ, i64_w, i32_w]
      rfl
    refine take_ (i := 12) (N := some 24) (v := ?_) (a' := ?_) #[true, true, true, true, true, true, true, true, true, true, true, true, true, false, false, false, false, false, false, false, false, false, false, false, false, false, false, false, false] rfl rfl (by kernel_rfl) (fun _ _ _ h => h) (Or.inl ⟨by rfl, ?_⟩) hHeld ?_ ?_
    rotate_left
    · rintro w' ⟨s0, s1, s2, s3, s4, s5, s6, s7, s8, s9, s10, s11, s12, s13⟩
      go_simp
      with_reducible rfl
    rotate_left
    · simp only [Act.put, List.setIfInBounds_toArray, List.set_cons_zero, List.set_cons_succ, i64_w, i32_w]
      rfl
    refine pure_ (i := 13) (N := some 25) (v := ?_) (a' := ?_) #[true, true, true, true, true, true, true, true, true, true, true, true, true, true, false, false, false, false, false, false, false, false, false, false, false, false, false, false, false] rfl rfl (by kernel_rfl) (fun _ _ _ h => h) (Or.inl ⟨by rfl, ?_⟩) ?_ ?_
    rotate_left
    · intro w'
      go_simp
      with_reducible rfl
    rotate_left
    · simp only [Act.put, List.setIfInBounds_toArray, List.set_cons_zero, List.set_cons_succ, i64_w, i32_w]
      rfl
    refine pure_ (i := 14) (N := some 26) (v := ?_) (a' := ?_) #[true, true, true, true, true, true, true, true, true, true, true, true, true, true, true, false, false, false, false, false, false, false, false, false, false, false, false, false, false] rfl rfl (by kernel_rfl) (fun _ _ _ h => h) (Or.inl ⟨by rfl, ?_⟩) ?_ ?_
    rotate_left
    · intro w'
      go_simp
      with_reducible rfl
    rotate_left
    · simp only [Act.put, List.setIfInBounds_toArray, List.set_cons_zero, List.set_cons_succ, i64_w, i32_w]
      rfl
    refine pure_ (i := 15) (N := some 27) (v := ?_) (a' := ?_) #[true, true, true, true, true, true, true, true, true, true, true, true, true, true, true, true, false, false, false, false, false, false, false, false, false, false, false, false, false] rfl rfl (by kernel_rfl) (fun _ _ _ h => h) (Or.inl ⟨by rfl, ?_⟩) ?_ ?_
    rotate_left
    · intro w'
      go_simp
      with_reducible rfl
    rotate_left
    · simp only [Act.put, List.setIfInBounds_toArray, List.set_cons_zero, List.set_cons_succ, i64_w, i32_w]
      rfl
    refine pure_ (i := 16) (N := some 28) (v := ?_) (a' := ?_) #[true, true, true, true, true, true, true, true, true, true, true, true, true, true, true, true, true, false, false, false, false, false, false, false, false, false, false, false, false] rfl rfl (by kernel_rfl) (fun _ _ _ h => h) (Or.inl ⟨by rfl, ?_⟩) ?_ ?_
    rotate_left
    · intro w'
      go_simp
      with_reducible rfl
    rotate_left
    · simp only [Act.put, List.setIfInBounds_toArray, List.set_cons_zero, List.set_cons_succ, i64_w, i32_w]
      rfl
    refine pure_ (i := 18) (N := some 30) (v := ?_) (a' := ?_) #[true, true, true, true, true, true, true, true, true, true, true, true, true, true, true, true, true, false, true, false, false, false, false, false, false, false, false, false, false] rfl rfl (by kernel_rfl) (fun _ _ _ h => h) (Or.inl ⟨by rfl, ?_⟩) ?_ ?_
    rotate_left
    · intro w'
      go_simp
      with_reducible rfl
    rotate_left
    · simp only [Act.put, List.setIfInBounds_toArray, List.set_cons_zero, List.set_cons_succ, i64_w, i32_w]
      rfl
    refine pure_ (i := 19) (N := some 31) (v := ?_) (a' := ?_) #[true, true, true, true, true, true, true, true, true, true, true, true, true, true, true, true, true, false, true, true, false, false, false, false, false, false, false, false, false] rfl rfl (by kernel_rfl) (fun _ _ _ h => h) (Or.inl ⟨by rfl, ?_⟩) ?_ ?_
    rotate_left
    · intro w'
      go_simp
      with_reducible rfl
    rotate_left
    · simp only [Act.put, List.setIfInBounds_toArray, List.set_cons_zero, List.set_cons_succ, i64_w, i32_w]
      rfl
    refine take_ (i := 17) (N := some 29) (v := ?_) (a' := ?_) #[true, true, true, true, true, true, true, true, true, true, true, true, true, true, true, true, true, true, true, true, false, false, false, false, false, false, false, false, false] rfl rfl (by kernel_rfl) (fun _ _ _ h => h) (Or.inl ⟨by rfl, ?_⟩) hHeld ?_ ?_
    rotate_left
    · rintro w' ⟨s0, s1, s2, s3, s4, s5, s6, s7, s8, s9, s10, s11, s12, s13⟩
      go_simp
      with_reducible rfl
    rotate_left
    · simp only [Act.put, List.setIfInBounds_toArray, List.set_cons_zero, List.set_cons_succ, i64_w, i32_w]
      rfl
    refine take_ (i := 20) (N := some 32) (v := ?_) (a' := ?_) #[true, true, true, true, true, true, true, true, true, true, true, true, true, true, true, true, true, true, true, true, true, false, false, false, false, false, false, false, false] rfl rfl (by kernel_rfl) (fun _ _ _ h => h) (Or.inl ⟨by rfl, ?_⟩) hHeld ?_ ?_
    rotate_left
    · rintro w' ⟨s0, s1, s2, s3, s4, s5, s6, s7, s8, s9, s10, s11, s12, s13⟩
      go_simp
      with_reducible rfl
    rotate_left
    · simp only [Act.put, List.setIfInBounds_toArray, List.set_cons_zero, List.set_cons_succ, i64_w, i32_w]
      rfl
    refine pure_ (i := 21) (N := some 33) (v := ?_) (a' := ?_) #[true, true, true, true, true, true, true, true, true, true, true, true, true, true, true, true, true, true, true, true, true, true, false, false, false, false, false, false, false] rfl rfl (by kernel_rfl) (fun _ _ _ h => h) (Or.inl ⟨by rfl, ?_⟩) ?_ ?_
    rotate_left
    · intro w'
      go_simp
      with_reducible rfl
    rotate_left
    · simp only [Act.put, List.setIfInBounds_toArray, List.set_cons_zero, List.set_cons_succ, i64_w, i32_w]
      rfl
    refine pure_ (i := 22) (N := some 34) (v := ?_) (a' := ?_) #[true, true, true, true, true, true, true, true, true, true, true, true, true, true, true, true, true, true, true, true, true, true, true, false, false, false, false, false, false] rfl rfl (by kernel_rfl) (fun _ _ _ h => h) (Or.inl ⟨by rfl, ?_⟩) ?_ ?_
    rotate_left
    · intro w'
      go_simp
      with_reducible rfl
    rotate_left
    · simp only [Act.put, List.setIfInBounds_toArray, List.set_cons_zero, List.set_cons_succ, i64_w, i32_w]
      rfl
    refine pure_ (i := 23) (N := some 35) (v := ?_) (a' := ?_) #[true, true, true, true, true, true, true, true, true, true, true, true, true, true, true, true, true, true, true, true, true, true, true, true, false, false, false, false, false] rfl rfl (by kernel_rfl) (fun _ _ _ h => h) (Or.inl ⟨by rfl, ?_⟩) ?_ ?_
    rotate_left
    · intro w'
      go_simp
      with_reducible rfl
    rotate_left
    · simp only [Act.put, List.setIfInBounds_toArray, List.set_cons_zero, List.set_cons_succ, i64_w, i32_w]
      rfl
    refine pure_ (i := 24) (N := some 36) (v := undef) (a' := ?_) #[true, true, true, true, true, true, true, true, true, true, true, true, true, true, true, true, true, true, true, true, true, true, true, true, true, false, false, false, false] rfl rfl (by kernel_rfl) (fun _ _ _ h => h) (Or.inr ⟨by rfl, rfl⟩) ?_ ?_
    rotate_left
    · simp only [Act.put, List.setIfInBounds_toArray, List.set_cons_zero, List.set_cons_succ, i64_w, i32_w]
      rfl
    refine pure_ (i := 25) (N := some 37) (v := undef) (a' := ?_) #[true, true, true, true, true, true, true, true, true, true, true, true, true, true, true, true, true, true, true, true, true, true, true, true, true, true, false, false, false] rfl rfl (by kernel_rfl) (fun _ _ _ h => h) (Or.inr ⟨by rfl, rfl⟩) ?_ ?_
    rotate_left
    · simp only [Act.put, List.setIfInBounds_toArray, List.set_cons_zero, List.set_cons_succ, i64_w, i32_w]
      rfl
    refine pure_ (i := 26) (N := some 38) (v := undef) (a' := ?_) #[true, true, true, true, true, true, true, true, true, true, true, true, true, true, true, true, true, true, true, true, true, true, true, true, true, true, true, false, false] rfl rfl (by kernel_rfl) (fun _ _ _ h => h) (Or.inr ⟨by rfl, rfl⟩) ?_ ?_
    rotate_left
    · simp only [Act.put, List.setIfInBounds_toArray, List.set_cons_zero, List.set_cons_succ, i64_w, i32_w]
      rfl
    refine pure_ (i := 27) (N := some 39) (v := undef) (a' := ?_) #[true, true, true, true, true, true, true, true, true, true, true, true, true, true, true, true, true, true, true, true, true, true, true, true, true, true, true, true, false] rfl rfl (by kernel_rfl) (fun _ _ _ h => h) (Or.inr ⟨by rfl, rfl⟩) ?_ ?_
    rotate_left
    · simp only [Act.put, List.setIfInBounds_toArray, List.set_cons_zero, List.set_cons_succ, i64_w, i32_w]
      rfl
    refine pure_ (i := 28) (N := some 40) (v := ?_) (a' := ?_) #[true, true, true, true, true, true, true, true, true, true, true, true, true, true, true, true, true, true, true, true, true, true, true, true, true, true, true, true, true] rfl rfl (by kernel_rfl) (fun _ _ _ h => h) (Or.inl ⟨by rfl, ?_⟩) ?_ ?_
    rotate_left
    · intro w'
      go_simp
      with_reducible rfl
    rotate_left
    · simp only [Act.put, List.setIfInBounds_toArray, List.set_cons_zero, List.set_cons_succ, i64_w, i32_w]
      rfl
    refine done_ (by kernel_rfl) ?_
    (try clear hHeld)
    obtain ⟨hcz6_0, hcz6_1, hcz6_2, hcz6_3, hcz6_4, hcz6_5, hcz6_6, hcz6_f0, hcz6_f1, hcz6_f2, hcz6_f3, hcz6_f4, hcz6_f5, hcz6_f6⟩ := lk_c7 BK233.out
    obtain ⟨hcz7_0, hcz7_1, hcz7_2, hcz7_3, hcz7_4, hcz7_5, hcz7_6, hcz7_f0, hcz7_f1, hcz7_f2, hcz7_f3, hcz7_f4, hcz7_f5, hcz7_f6⟩ := lk_c7 BK223.out
    have hnb8_ : gb233 ≠ gb223 := (by have g1_ := HG233.out; have g2_ := HG223.out; have z_ := HLA.out; omega)
    have hnb9_ : gb223 ≠ gb233 := (by have g1_ := HG223.out; have g2_ := HG233.out; have z_ := HLA.out; omega)
    go_wp2_with (first | ((with_reducible refine gate_store (t := 31) (p := 4) rfl ?_); refine store_event (t := 31) (p := 4) (v := ?vo_lg31) (w1 := (((((((wv11.setCell ⟨gb223, 0, none⟩ (.int .i64 t224)).setCell ⟨gb223, 1, none⟩ (.int .i64 t225)).setCell ⟨gb223, 2, none⟩ (.int .i64 t226)).setCell ⟨gb223, 3, none⟩ (.int .i64 t227)).setCell ⟨gb223, 4, none⟩ (.int .i64 t228)).setCell ⟨gb223, 5, none⟩ (.slice Aq2_ t229.length cq2_)).setCell ⟨gb223, 6, none⟩ (.int .i64 t232))) ?hg ?ho ?hn ?hr ?_; (case ho => rfl); (case hg => rfl); (case hn => rfl); (case hr => first | (go_simp; done) | (go_simp; rfl)); intro wv12 hw; have hk2 := (show Kept wv11 wv12 (fun k_ => k_ = gb223) from by rw [hw]; exact (show Kept wv11 (((((((wv11.setCell ⟨gb223, 0, none⟩ (.int .i64 t224)).setCell ⟨gb223, 1, none⟩ (.int .i64 t225)).setCell ⟨gb223, 2, none⟩ (.int .i64 t226)).setCell ⟨gb223, 3, none⟩ (.int .i64 t227)).setCell ⟨gb223, 4, none⟩ (.int .i64 t228)).setCell ⟨gb223, 5, none⟩ (.slice Aq2_ t229.length cq2_)).setCell ⟨gb223, 6, none⟩ (.int .i64 t232)) (fun k_ => k_ = gb223) from by repeat (first | (with_reducible first | exact Kept.refl _ _ | apply Kept.alloc | apply Kept.drewN | apply Kept.drew) | refine Kept.setCell ?_ (.inl (by first | exact rfl | exact .inl rfl | exact .inr rfl | exact .inr (.inl rfl) | exact .inr (.inr rfl))) _ | exact Kept.refl _ _))); replace HOq2_ := Aside0.mk (Kd.R_kept HOq2_.out hk2 (fun k_ hk_ hs_ => by have i_ := HIq2_.out k_ hk_; have hs2_ : k_ = gb223 := hs_; have g0_ := HG223.out; have z_ := HLA.out; omega)); replace BK221 := Aside0.mk (blk_kept BK221.out hk2 (fun hs_ => by have hs2_ : gb221 = gb223 := hs_; have g_ := HG221.out; have g0_ := HG223.out; have z_ := HLA.out; omega)); replace BK222 := Aside0.mk (blk_kept BK222.out hk2 (fun hs_ => by have hs2_ : gb222 = gb223 := hs_; have g_ := HG222.out; have g0_ := HG223.out; have z_ := HLA.out; omega)); replace BK223 := Aside0.mk ((show wv12.heap[gb223]? = some (Obj.cells #[.int .i64 t224, .int .i64 t225, .int .i64 t226, .int .i64 t227, .int .i64 t228, .slice Aq2_ t229.length cq2_, .int .i64 t232] 31 (0, 0)) from by rw [hw]; exact (show _ = some (Obj.cells #[.int .i64 t224, .int .i64 t225, .int .i64 t226, .int .i64 t227, .int .i64 t228, .slice Aq2_ t229.length cq2_, .int .i64 t232] 31 (0, 0)) from by (with_reducible repeat (first | refine blk_drewN ?_ _ | refine blk_drew ?_ | refine blk_alloc ?_ _)); refine blk_put (cs := #[.int .i64 t224, .int .i64 t225, .int .i64 t226, .int .i64 t227, .int .i64 t228, .slice Aq2_ t229.length cq2_, .int .i64 0]) ?_ 6 _ rfl; (with_reducible repeat (first | refine blk_drewN ?_ _ | refine blk_drew ?_ | refine blk_alloc ?_ _)); refine blk_put (cs := #[.int .i64 t224, .int .i64 t225, .int .i64 t226, .int .i64 t227, .int .i64 t228, .slice none 0 0, .int .i64 0]) ?_ 5 _ rfl; (with_reducible repeat (first | refine blk_drewN ?_ _ | refine blk_drew ?_ | refine blk_alloc ?_ _)); refine blk_put (cs := #[.int .i64 t224, .int .i64 t225, .int .i64 t226, .int .i64 t227, .int .i64 0, .slice none 0 0, .int .i64 0]) ?_ 4 _ rfl; (with_reducible repeat (first | refine blk_drewN ?_ _ | refine blk_drew ?_ | refine blk_alloc ?_ _)); refine blk_put (cs := #[.int .i64 t224, .int .i64 t225, .int .i64 t226, .int .i64 0, .int .i64 0, .slice none 0 0, .int .i64 0]) ?_ 3 _ rfl; (with_reducible repeat (first | refine blk_drewN ?_ _ | refine blk_drew ?_ | refine blk_alloc ?_ _)); refine blk_put (cs := #[.int .i64 t224, .int .i64 t225, .int .i64 0, .int .i64 0, .int .i64 0, .slice none 0 0, .int .i64 0]) ?_ 2 _ rfl; (with_reducible repeat (first | refine blk_drewN ?_ _ | refine blk_drew ?_ | refine blk_alloc ?_ _)); refine blk_put (cs := #[.int .i64 t224, .int .i64 0, .int .i64 0, .int .i64 0, .int .i64 0, .slice none 0 0, .int .i64 0]) ?_ 1 _ rfl; (with_reducible repeat (first | refine blk_drewN ?_ _ | refine blk_drew ?_ | refine blk_alloc ?_ _)); refine blk_put (cs := #[.int .i64 0, .int .i64 0, .int .i64 0, .int .i64 0, .int .i64 0, .slice none 0 0, .int .i64 0]) ?_ 0 _ rfl; (with_reducible repeat (first | refine blk_drewN ?_ _ | refine blk_drew ?_ | refine blk_alloc ?_ _)); exact BK223.out))); replace BK233 := Aside0.mk (blk_kept BK233.out hk2 (fun hs_ => by have hs2_ : gb233 = gb223 := hs_; have g_ := HG233.out; have g0_ := HG223.out; have z_ := HLA.out; omega)); replace BK234 := Aside0.mk (blk_kept BK234.out hk2 (fun hs_ => by have hs2_ : gb234 = gb223 := hs_; have g_ := HG234.out; have g0_ := HG223.out; have z_ := HLA.out; omega)); replace HB := Aside0.mk ((show Below w.heap.size w wv12 from by rw [hw]; exact by repeat (first | (with_reducible first | exact HB.out | apply below_alloc | apply pw_below_drewN | apply below_drew1 | refine below_set ?_ GE223.out) | exact HB.out))); replace HLA := Aside0.mk (And.intro HLA.out (hk2.1 : wv11.heap.size ≤ wv12.heap.size)); clear hw hk2))
    refine bodyPost_ret (results_ct rfl _ _ gb223 31 #[.int .i64 t224, .int .i64 t225, .int .i64 t226, .int .i64 t227, .int .i64 t228, .slice Aq2_ t229.length cq2_, .int .i64 t232] (0, 0) _ rfl (BK223.out) Try.underlying31 rfl (by kernel_rfl)) rfl ?_
    exact ⟨_, by first | rfl | (simp [errW_none, errW_some] <;> rfl) | (simp [*] <;> rfl), Kd.R_mono HOq2_.out (fun _ _ => trivial), by repeat (first | (with_reducible first | exact HB.out | apply below_alloc | apply pw_below_drewN | apply below_drew1) | exact HB.out)⟩
  rw [if_pos c9] at H
  have c9b0 : (a1_0 == a0_0) = true := beq_iff_eq.mpr c9
  have c9b1 : (a1_0 != a0_0) = false := bne_eq_false_iff_eq.mpr c9
  clear c9
  obtain ⟨y237, hy237⟩ : ∃ y_ : List (S26), y_ = (([(⟨a1_0, a1_1⟩ : S26)] : List (S26))) := ⟨_, rfl⟩
  replace H : ((impl_AreShares.f y237).bind fun t240 => (if t240 = true then ((impl_progress.f a1_0 a1_1 (wrap64 (a0_2 + 1)) 0 a0_4).bind fun t241 => (some (a1_0, a1_1, wrap64 (a0_2 + 1), 0, a0_4, t229, t241, true))) else (some (t224, t225, t226, t227, t228, t229, t232, false)))) = some (r1, r2, r3, r4, r5, r6, r7, r8) := by first | (rw [hy237]; with_reducible exact H) | (have H2_ := (Option.bind_some _ _).symm.trans H; rw [hy237]; with_reducible exact H2_) | (have H2_ := (Option.bind_some _ _).symm.trans H; with_reducible exact H2_) | with_reducible exact H | (rw [hy237]; exact H) | exact H
  have Ny237 := Aside0.mk hy237
  clear hy237
  replace H := Option.bind_eq_some_iff.mp H
  obtain ⟨t240, A100, H⟩ := H
  replace H : (if t240 = true then ((impl_progress.f a1_0 a1_1 (wrap64 (a0_2 + 1)) 0 a0_4).bind fun t241 => (some (a1_0, a1_1, wrap64 (a0_2 + 1), 0, a0_4, t229, t241, true))) else (some (t224, t225, t226, t227, t228, t229, t232, false))) = some (r1, r2, r3, r4, r5, r6, r7, r8) := H
  have A10 := Aside0.mk A100
  clear A100
  have HC11 := Aside0.mk H
  clear H
  go_enter Try.func35, Try.ntmps35
  go_wp2_with (first | ((with_reducible refine gate_dst (N := 2) rfl ?_); (try (refine gate_guard (by rfl) ?_; dsimp only)); refine box_event ?hg (N := 2) ?hd (cs := #[.int .i64 a0_0, .int .i64 a0_1, .int .i64 a0_2, .int .i64 a0_3, .int .i64 a0_4, .slice A0_5 l0_5.length c0_5, .int .i64 a0_6]) (t := 31) ?hr ?_; (case hd => rfl); (case hg => rfl); (case hr => first | (go_simp; done) | (go_simp; rfl)); intro gb221 hg wv1 hbox hb; have BK221 := Aside0.mk (hbox); have GE221 := Aside0.mk ((by rw [hg]; exact Nat.le_trans HB.out.size ((Kept.refl w (fun _ => False))).1 : w.heap.size ≤ gb221)); have HG221 := Aside0.mk ((⟨by rw [hg]; exact ((Kept.refl w (fun _ => False))).1, blk_lt hbox⟩ : w.heap.size ≤ gb221 ∧ gb221 < wv1.heap.size)); have HLA := Aside0.mk (((Kept.below (Kept.refl w (fun _ => False)) hb).1 : w.heap.size ≤ wv1.heap.size)); replace HB := Aside0.mk (below_step HB.out hb); clear hb hbox hg) | ((with_reducible refine gate_dst (N := 3) rfl ?_); (try (refine gate_guard (by rfl) ?_; dsimp only)); refine box_event ?hg (N := 3) ?hd (cs := #[.int .i64 a1_0, .int .i64 a1_1]) (t := 26) ?hr ?_; (case hd => rfl); (case hg => rfl); (case hr => first | (go_simp; done) | (go_simp; rfl)); intro gb222 hg wv2 hbox hb; have BK222 := Aside0.mk (hbox); have GE222 := Aside0.mk ((by rw [hg]; exact Nat.le_trans HB.out.size ((Kept.refl wv1 (fun _ => False))).1 : w.heap.size ≤ gb222)); have HG222 := Aside0.mk ((⟨by rw [hg]; exact ((Kept.refl wv1 (fun _ => False))).1, blk_lt hbox⟩ : wv1.heap.size ≤ gb222 ∧ gb222 < wv2.heap.size)); replace BK221 := Aside0.mk (blk_below BK221.out hb); replace HB := Aside0.mk (below_step HB.out hb); replace HLA := Aside0.mk (And.intro HLA.out ((Kept.below (Kept.refl wv1 (fun _ => False)) hb).1 : wv1.heap.size ≤ wv2.heap.size)); clear hb hbox hg) | ((with_reducible refine gate_dst (N := 4) rfl ?_); (try (refine gate_guard (by rfl) ?_; dsimp only)); refine box_event ?hg (N := 4) ?hd (cs := #[.int .i64 0, .int .i64 0, .int .i64 0, .int .i64 0, .int .i64 0, .slice none 0 0, .int .i64 0]) (t := 31) ?hr ?_; (case hd => rfl); (case hg => rfl); (case hr => first | (go_simp; done) | (go_simp; rfl)); intro gb223 hg wv3 hbox hb; have BK223 := Aside0.mk (hbox); have GE223 := Aside0.mk ((by rw [hg]; exact Nat.le_trans HB.out.size ((Kept.refl wv2 (fun _ => False))).1 : w.heap.size ≤ gb223)); have HG223 := Aside0.mk ((⟨by rw [hg]; exact ((Kept.refl wv2 (fun _ => False))).1, blk_lt hbox⟩ : wv2.heap.size ≤ gb223 ∧ gb223 < wv3.heap.size)); replace BK221 := Aside0.mk (blk_below BK221.out hb); replace BK222 := Aside0.mk (blk_below BK222.out hb); replace HB := Aside0.mk (below_step HB.out hb); replace HLA := Aside0.mk (And.intro HLA.out ((Kept.below (Kept.refl wv2 (fun _ => False)) hb).1 : wv2.heap.size ≤ wv3.heap.size)); clear hb hbox hg; obtain ⟨hcz1_0, hcz1_1, hcz1_2, hcz1_3, hcz1_4, hcz1_5, hcz1_6, hcz1_f0, hcz1_f1, hcz1_f2, hcz1_f3, hcz1_f4, hcz1_f5, hcz1_f6⟩ := lk_c7 BK221.out) | ((with_reducible refine gate_callee (f := 61) rfl ?_); refine goesL_ (some 9) rfl rfl Try.func61 (by kernel_rfl) rfl #[.agg #[.int .i64 a0_0, .int .i64 a0_1, .int .i64 a0_2, .int .i64 a0_3, .int .i64 a0_4, .slice A0_5 l0_5.length c0_5, .int .i64 a0_6]] rfl (by (try simp only [List.map_toArray, List.map_cons, List.map_nil]); first | done | rfl | (simp only [List.length_drop, List.length_take]; rfl)) ?_; (with_reducible refine (impl_copyHost.calls a0_0 a0_1 a0_2 a0_3 a0_4 _ _ l0_5 a0_6 t224 t225 t226 t227 t228 t229 t232 _ ?side1 ?side2 A3.out).mono ?_); (case side1 => exact Kd.C_below HR0_5.out (by repeat (first | (with_reducible first | exact HB.out | apply below_alloc | apply pw_below_drewN | apply below_drew1) | exact HB.out))); (case side2 => exact HC0_5.out); rintro e wv4 ⟨vq2_, rfl, ho0, hb⟩; refine ⟨_, rfl, ?_⟩; have hkW := (Kept.refl wv3 (fun _ => False)); have hk2 := Kept.below hkW hb; obtain ⟨Aq2_, cq2_, rfl⟩ := Kd.R_slice ho0; obtain ⟨okq2_, hoo0, hi0⟩ := lk_R ho0 (a := wv3.heap.size) (b := w.heap.size) hkW.1 (Nat.le_trans HB.out.size hkW.1); have HOq2_ := Aside0.mk (hoo0); have HIq2_ := Aside0.mk (hi0); replace BK221 := Aside0.mk (blk_below BK221.out hb); replace BK222 := Aside0.mk (blk_below BK222.out hb); replace BK223 := Aside0.mk (blk_below BK223.out hb); replace HB := Aside0.mk (below_step (by repeat (first | (with_reducible first | exact HB.out | apply below_alloc | apply pw_below_drewN | apply below_drew1) | exact HB.out)) hb); replace HLA := Aside0.mk (And.intro HLA.out (hk2.1 : wv3.heap.size ≤ wv4.heap.size)); (try clear hb); (try clear hkW); (try clear hk2); (try clear hkp); (try clear hoo0); (try clear hi0); (try clear ho0)) | ((with_reducible refine gate_dst (N := 6) rfl ?_); (try (refine gate_guard (by rfl) ?_; dsimp only)); refine box_event ?hg (N := 6) ?hd (cs := #[.int .i64 0, .int .i64 0, .int .i64 0, .int .i64 0, .int .i64 0, .slice none 0 0, .int .i64 0]) (t := 31) ?hr ?_; (case hd => rfl); (case hg => rfl); (case hr => first | (go_simp; done) | (go_simp; rfl)); intro gb233 hg wv5 hbox hb; have BK233 := Aside0.mk (hbox); have GE233 := Aside0.mk ((by rw [hg]; exact Nat.le_trans HB.out.size ((Kept.refl wv4 (fun _ => False))).1 : w.heap.size ≤ gb233)); have HG233 := Aside0.mk ((⟨by rw [hg]; exact ((Kept.refl wv4 (fun _ => False))).1, blk_lt hbox⟩ : wv4.heap.size ≤ gb233 ∧ gb233 < wv5.heap.size)); replace HOq2_ := Aside0.mk (Kd.R_below HOq2_.out hb); replace BK221 := Aside0.mk (blk_below BK221.out hb); replace BK222 := Aside0.mk (blk_below BK222.out hb); replace BK223 := Aside0.mk (blk_below BK223.out hb); replace HB := Aside0.mk (below_step HB.out hb); replace HLA := Aside0.mk (And.intro HLA.out ((Kept.below (Kept.refl wv4 (fun _ => False)) hb).1 : wv4.heap.size ≤ wv5.heap.size)); clear hb hbox hg; obtain ⟨hcz3_0, hcz3_1, hcz3_2, hcz3_3, hcz3_4, hcz3_5, hcz3_6, hcz3_f0, hcz3_f1, hcz3_f2, hcz3_f3, hcz3_f4, hcz3_f5, hcz3_f6⟩ := lk_c7 BK233.out) | ((with_reducible refine gate_store (t := 31) (p := 6) rfl ?_); refine store_event (t := 31) (p := 6) (v := ?vo_lg20) (w1 := (((((((wv5.setCell ⟨gb233, 0, none⟩ (.int .i64 t224)).setCell ⟨gb233, 1, none⟩ (.int .i64 t225)).setCell ⟨gb233, 2, none⟩ (.int .i64 t226)).setCell ⟨gb233, 3, none⟩ (.int .i64 t227)).setCell ⟨gb233, 4, none⟩ (.int .i64 t228)).setCell ⟨gb233, 5, none⟩ (.slice Aq2_ t229.length cq2_)).setCell ⟨gb233, 6, none⟩ (.int .i64 t232))) ?hg ?ho ?hn ?hr ?_; (case ho => rfl); (case hg => rfl); (case hn => rfl); (case hr => first | (go_simp; done) | (go_simp; rfl)); intro wv6 hw; have hk2 := (show Kept wv5 wv6 (fun k_ => k_ = gb233) from by rw [hw]; exact (show Kept wv5 (((((((wv5.setCell ⟨gb233, 0, none⟩ (.int .i64 t224)).setCell ⟨gb233, 1, none⟩ (.int .i64 t225)).setCell ⟨gb233, 2, none⟩ (.int .i64 t226)).setCell ⟨gb233, 3, none⟩ (.int .i64 t227)).setCell ⟨gb233, 4, none⟩ (.int .i64 t228)).setCell ⟨gb233, 5, none⟩ (.slice Aq2_ t229.length cq2_)).setCell ⟨gb233, 6, none⟩ (.int .i64 t232)) (fun k_ => k_ = gb233) from by repeat (first | (with_reducible first | exact Kept.refl _ _ | apply Kept.alloc | apply Kept.drewN | apply Kept.drew) | refine Kept.setCell ?_ (.inl (by first | exact rfl | exact .inl rfl | exact .inr rfl | exact .inr (.inl rfl) | exact .inr (.inr rfl))) _ | exact Kept.refl _ _))); replace HOq2_ := Aside0.mk (Kd.R_kept HOq2_.out hk2 (fun k_ hk_ hs_ => by have i_ := HIq2_.out k_ hk_; have hs2_ : k_ = gb233 := hs_; have g0_ := HG233.out; have z_ := HLA.out; omega)); replace BK221 := Aside0.mk (blk_kept BK221.out hk2 (fun hs_ => by have hs2_ : gb221 = gb233 := hs_; have g_ := HG221.out; have g0_ := HG233.out; have z_ := HLA.out; omega)); replace BK222 := Aside0.mk (blk_kept BK222.out hk2 (fun hs_ => by have hs2_ : gb222 = gb233 := hs_; have g_ := HG222.out; have g0_ := HG233.out; have z_ := HLA.out; omega)); replace BK223 := Aside0.mk (blk_kept BK223.out hk2 (fun hs_ => by have hs2_ : gb223 = gb233 := hs_; have g_ := HG223.out; have g0_ := HG233.out; have z_ := HLA.out; omega)); replace BK233 := Aside0.mk ((show wv6.heap[gb233]? = some (Obj.cells #[.int .i64 t224, .int .i64 t225, .int .i64 t226, .int .i64 t227, .int .i64 t228, .slice Aq2_ t229.length cq2_, .int .i64 t232] 31 (0, 0)) from by rw [hw]; exact (show _ = some (Obj.cells #[.int .i64 t224, .int .i64 t225, .int .i64 t226, .int .i64 t227, .int .i64 t228, .slice Aq2_ t229.length cq2_, .int .i64 t232] 31 (0, 0)) from by (with_reducible repeat (first | refine blk_drewN ?_ _ | refine blk_drew ?_ | refine blk_alloc ?_ _)); refine blk_put (cs := #[.int .i64 t224, .int .i64 t225, .int .i64 t226, .int .i64 t227, .int .i64 t228, .slice Aq2_ t229.length cq2_, .int .i64 0]) ?_ 6 _ rfl; (with_reducible repeat (first | refine blk_drewN ?_ _ | refine blk_drew ?_ | refine blk_alloc ?_ _)); refine blk_put (cs := #[.int .i64 t224, .int .i64 t225, .int .i64 t226, .int .i64 t227, .int .i64 t228, .slice none 0 0, .int .i64 0]) ?_ 5 _ rfl; (with_reducible repeat (first | refine blk_drewN ?_ _ | refine blk_drew ?_ | refine blk_alloc ?_ _)); refine blk_put (cs := #[.int .i64 t224, .int .i64 t225, .int .i64 t226, .int .i64 t227, .int .i64 0, .slice none 0 0, .int .i64 0]) ?_ 4 _ rfl; (with_reducible repeat (first | refine blk_drewN ?_ _ | refine blk_drew ?_ | refine blk_alloc ?_ _)); refine blk_put (cs := #[.int .i64 t224, .int .i64 t225, .int .i64 t226, .int .i64 0, .int .i64 0, .slice none 0 0, .int .i64 0]) ?_ 3 _ rfl; (with_reducible repeat (first | refine blk_drewN ?_ _ | refine blk_drew ?_ | refine blk_alloc ?_ _)); refine blk_put (cs := #[.int .i64 t224, .int .i64 t225, .int .i64 0, .int .i64 0, .int .i64 0, .slice none 0 0, .int .i64 0]) ?_ 2 _ rfl; (with_reducible repeat (first | refine blk_drewN ?_ _ | refine blk_drew ?_ | refine blk_alloc ?_ _)); refine blk_put (cs := #[.int .i64 t224, .int .i64 0, .int .i64 0, .int .i64 0, .int .i64 0, .slice none 0 0, .int .i64 0]) ?_ 1 _ rfl; (with_reducible repeat (first | refine blk_drewN ?_ _ | refine blk_drew ?_ | refine blk_alloc ?_ _)); refine blk_put (cs := #[.int .i64 0, .int .i64 0, .int .i64 0, .int .i64 0, .int .i64 0, .slice none 0 0, .int .i64 0]) ?_ 0 _ rfl; (with_reducible repeat (first | refine blk_drewN ?_ _ | refine blk_drew ?_ | refine blk_alloc ?_ _)); exact BK233.out))); replace HB := Aside0.mk ((show Below w.heap.size w wv6 from by rw [hw]; exact by repeat (first | (with_reducible first | exact HB.out | apply below_alloc | apply pw_below_drewN | apply below_drew1 | refine below_set ?_ GE233.out) | exact HB.out))); replace HLA := Aside0.mk (And.intro HLA.out (hk2.1 : wv5.heap.size ≤ wv6.heap.size)); clear hw hk2; obtain ⟨hcz4_0, hcz4_1, hcz4_2, hcz4_3, hcz4_4, hcz4_5, hcz4_6, hcz4_f0, hcz4_f1, hcz4_f2, hcz4_f3, hcz4_f4, hcz4_f5, hcz4_f6⟩ := lk_c7 BK221.out) | ((with_reducible refine gate_dst (N := 7) rfl ?_); (try (refine gate_guard (by rfl) ?_; dsimp only)); refine box_event ?hg (N := 7) ?hd (cs := #[.int .i64 0, .int .i64 0, .int .i64 0, .int .i64 0, .int .i64 0]) (t := 28) ?hr ?_; (case hd => rfl); (case hg => rfl); (case hr => first | (go_simp; done) | (go_simp; rfl)); intro gb234 hg wv7 hbox hb; have BK234 := Aside0.mk (hbox); have GE234 := Aside0.mk ((by rw [hg]; exact Nat.le_trans HB.out.size ((Kept.refl wv6 (fun _ => False))).1 : w.heap.size ≤ gb234)); have HG234 := Aside0.mk ((⟨by rw [hg]; exact ((Kept.refl wv6 (fun _ => False))).1, blk_lt hbox⟩ : wv6.heap.size ≤ gb234 ∧ gb234 < wv7.heap.size)); replace HOq2_ := Aside0.mk (Kd.R_below HOq2_.out hb); replace BK221 := Aside0.mk (blk_below BK221.out hb); replace BK222 := Aside0.mk (blk_below BK222.out hb); replace BK223 := Aside0.mk (blk_below BK223.out hb); replace BK233 := Aside0.mk (blk_below BK233.out hb); replace HB := Aside0.mk (below_step HB.out hb); replace HLA := Aside0.mk (And.intro HLA.out ((Kept.below (Kept.refl wv6 (fun _ => False)) hb).1 : wv6.heap.size ≤ wv7.heap.size)); clear hb hbox hg; obtain ⟨hcz5_0, hcz5_1, hcz5_2, hcz5_3, hcz5_4, hcz5_f0, hcz5_f1, hcz5_f2, hcz5_f3, hcz5_f4⟩ := lk_c5 BK234.out) | ((with_reducible refine gate_store (t := 28) (p := 7) rfl ?_); refine store_event (t := 28) (p := 7) (v := ?vo_lg21) (w1 := (((((wv7.setCell ⟨gb234, 0, none⟩ (.int .i64 a0_0)).setCell ⟨gb234, 1, none⟩ (.int .i64 a0_1)).setCell ⟨gb234, 2, none⟩ (.int .i64 a0_2)).setCell ⟨gb234, 3, none⟩ (.int .i64 a0_3)).setCell ⟨gb234, 4, none⟩ (.int .i64 a0_4))) ?hg ?ho ?hn ?hr ?_; (case ho => rfl); (case hg => rfl); (case hn => rfl); (case hr => first | (go_simp; done) | (go_simp; rfl)); intro wv8 hw; have hk2 := (show Kept wv7 wv8 (fun k_ => k_ = gb234) from by rw [hw]; exact (show Kept wv7 (((((wv7.setCell ⟨gb234, 0, none⟩ (.int .i64 a0_0)).setCell ⟨gb234, 1, none⟩ (.int .i64 a0_1)).setCell ⟨gb234, 2, none⟩ (.int .i64 a0_2)).setCell ⟨gb234, 3, none⟩ (.int .i64 a0_3)).setCell ⟨gb234, 4, none⟩ (.int .i64 a0_4)) (fun k_ => k_ = gb234) from by repeat (first | (with_reducible first | exact Kept.refl _ _ | apply Kept.alloc | apply Kept.drewN | apply Kept.drew) | refine Kept.setCell ?_ (.inl (by first | exact rfl | exact .inl rfl | exact .inr rfl | exact .inr (.inl rfl) | exact .inr (.inr rfl))) _ | exact Kept.refl _ _))); replace HOq2_ := Aside0.mk (Kd.R_kept HOq2_.out hk2 (fun k_ hk_ hs_ => by have i_ := HIq2_.out k_ hk_; have hs2_ : k_ = gb234 := hs_; have g0_ := HG234.out; have z_ := HLA.out; omega)); replace BK221 := Aside0.mk (blk_kept BK221.out hk2 (fun hs_ => by have hs2_ : gb221 = gb234 := hs_; have g_ := HG221.out; have g0_ := HG234.out; have z_ := HLA.out; omega)); replace BK222 := Aside0.mk (blk_kept BK222.out hk2 (fun hs_ => by have hs2_ : gb222 = gb234 := hs_; have g_ := HG222.out; have g0_ := HG234.out; have z_ := HLA.out; omega)); replace BK223 := Aside0.mk (blk_kept BK223.out hk2 (fun hs_ => by have hs2_ : gb223 = gb234 := hs_; have g_ := HG223.out; have g0_ := HG234.out; have z_ := HLA.out; omega)); replace BK233 := Aside0.mk (blk_kept BK233.out hk2 (fun hs_ => by have hs2_ : gb233 = gb234 := hs_; have g_ := HG233.out; have g0_ := HG234.out; have z_ := HLA.out; omega)); replace BK234 := Aside0.mk ((show wv8.heap[gb234]? = some (Obj.cells #[.int .i64 a0_0, .int .i64 a0_1, .int .i64 a0_2, .int .i64 a0_3, .int .i64 a0_4] 28 (0, 0)) from by rw [hw]; exact (show _ = some (Obj.cells #[.int .i64 a0_0, .int .i64 a0_1, .int .i64 a0_2, .int .i64 a0_3, .int .i64 a0_4] 28 (0, 0)) from by (with_reducible repeat (first | refine blk_drewN ?_ _ | refine blk_drew ?_ | refine blk_alloc ?_ _)); refine blk_put (cs := #[.int .i64 a0_0, .int .i64 a0_1, .int .i64 a0_2, .int .i64 a0_3, .int .i64 0]) ?_ 4 _ rfl; (with_reducible repeat (first | refine blk_drewN ?_ _ | refine blk_drew ?_ | refine blk_alloc ?_ _)); refine blk_put (cs := #[.int .i64 a0_0, .int .i64 a0_1, .int .i64 a0_2, .int .i64 0, .int .i64 0]) ?_ 3 _ rfl; (with_reducible repeat (first | refine blk_drewN ?_ _ | refine blk_drew ?_ | refine blk_alloc ?_ _)); refine blk_put (cs := #[.int .i64 a0_0, .int .i64 a0_1, .int .i64 0, .int .i64 0, .int .i64 0]) ?_ 2 _ rfl; (with_reducible repeat (first | refine blk_drewN ?_ _ | refine blk_drew ?_ | refine blk_alloc ?_ _)); refine blk_put (cs := #[.int .i64 a0_0, .int .i64 0, .int .i64 0, .int .i64 0, .int .i64 0]) ?_ 1 _ rfl; (with_reducible repeat (first | refine blk_drewN ?_ _ | refine blk_drew ?_ | refine blk_alloc ?_ _)); refine blk_put (cs := #[.int .i64 0, .int .i64 0, .int .i64 0, .int .i64 0, .int .i64 0]) ?_ 0 _ rfl; (with_reducible repeat (first | refine blk_drewN ?_ _ | refine blk_drew ?_ | refine blk_alloc ?_ _)); exact BK234.out))); replace HB := Aside0.mk ((show Below w.heap.size w wv8 from by rw [hw]; exact by repeat (first | (with_reducible first | exact HB.out | apply below_alloc | apply pw_below_drewN | apply below_drew1 | refine below_set ?_ GE234.out) | exact HB.out))); replace HLA := Aside0.mk (And.intro HLA.out (hk2.1 : wv7.heap.size ≤ wv8.heap.size)); clear hw hk2))
  replace HOq2_ := Aside0.mk (Kd.R_kept HOq2_.out (show Kept wv8 wv8.drew (fun k_ => False) from by repeat (first | (with_reducible first | exact Kept.refl _ _ | apply Kept.alloc | apply Kept.drewN | apply Kept.drew) | exact Kept.refl _ _)) (fun _ _ hs_ => hs_.elim))
  replace BK221 := Aside0.mk ((blk_kept BK221.out (show Kept wv8 wv8.drew (fun k_ => False) from by repeat (first | (with_reducible first | exact Kept.refl _ _ | apply Kept.alloc | apply Kept.drewN | apply Kept.drew) | exact Kept.refl _ _)) (fun hs_ => hs_.elim)))
  replace BK222 := Aside0.mk ((blk_kept BK222.out (show Kept wv8 wv8.drew (fun k_ => False) from by repeat (first | (with_reducible first | exact Kept.refl _ _ | apply Kept.alloc | apply Kept.drewN | apply Kept.drew) | exact Kept.refl _ _)) (fun hs_ => hs_.elim)))
  replace BK223 := Aside0.mk ((blk_kept BK223.out (show Kept wv8 wv8.drew (fun k_ => False) from by repeat (first | (with_reducible first | exact Kept.refl _ _ | apply Kept.alloc | apply Kept.drewN | apply Kept.drew) | exact Kept.refl _ _)) (fun hs_ => hs_.elim)))
  replace BK233 := Aside0.mk ((blk_kept BK233.out (show Kept wv8 wv8.drew (fun k_ => False) from by repeat (first | (with_reducible first | exact Kept.refl _ _ | apply Kept.alloc | apply Kept.drewN | apply Kept.drew) | exact Kept.refl _ _)) (fun hs_ => hs_.elim)))
  replace BK234 := Aside0.mk ((blk_kept BK234.out (show Kept wv8 wv8.drew (fun k_ => False) from by repeat (first | (with_reducible first | exact Kept.refl _ _ | apply Kept.alloc | apply Kept.drewN | apply Kept.drew) | exact Kept.refl _ _)) (fun hs_ => hs_.elim)))
  replace HB := Aside0.mk ((show Below w.heap.size w (wv8.drew) from by repeat (first | (with_reducible first | exact HB.out | apply below_alloc | apply pw_below_drewN | apply below_drew1) | exact HB.out)))
  replace HLA := Aside0.mk (And.intro HLA.out ((show Kept wv8 wv8.drew (fun k_ => False) from by repeat (first | (with_reducible first | exact Kept.refl _ _ | apply Kept.alloc | apply Kept.drewN | apply Kept.drew) | exact Kept.refl _ _)).1 : wv8.heap.size ≤ (wv8.drew).heap.size))
  refine start_ (n := 29) (S := fun w' => w'.cell? ⟨gb234, 0, none⟩ = some (.int .i64 a0_0) ∧ w'.cell? ⟨gb234, 1, none⟩ = some (.int .i64 a0_1) ∧ w'.cell? ⟨gb234, 2, none⟩ = some (.int .i64 a0_2) ∧ w'.cell? ⟨gb234, 3, none⟩ = some (.int .i64 a0_3) ∧ w'.cell? ⟨gb234, 4, none⟩ = some (.int .i64 a0_4) ∧ w'.cell? ⟨gb221, 0, none⟩ = some (.int .i64 a0_0) ∧ w'.cell? ⟨gb221, 1, none⟩ = some (.int .i64 a0_1) ∧ w'.cell? ⟨gb221, 2, none⟩ = some (.int .i64 a0_2) ∧ w'.cell? ⟨gb221, 3, none⟩ = some (.int .i64 a0_3) ∧ w'.cell? ⟨gb221, 4, none⟩ = some (.int .i64 a0_4) ∧ w'.cell? ⟨gb221, 5, none⟩ = some (.slice A0_5 l0_5.length c0_5) ∧ w'.cell? ⟨gb221, 6, none⟩ = some (.int .i64 a0_6) ∧ w'.cell? ⟨gb222, 0, none⟩ = some (.int .i64 a1_0) ∧ w'.cell? ⟨gb222, 1, none⟩ = some (.int .i64 a1_1)) (ds := []) #[false, false, false, false, false, false, false, false, false, false, false, false, false, false, false, false, false, false, false, false, false, false, false, false, false, false, false, false, false] (by kernel_rfl) rfl rfl (lk_t5 BK234.out (lk_t7 BK221.out (lk_e2 BK222.out))) (fun hHeld => ?_)
  generalize wv8.drew = wv9 at HOq2_ BK221 BK222 BK223 BK233 BK234 HB HLA hHeld ⊢
  refine take_ (i := 0) (N := some 12) (v := ?_) (a' := ?_) #[true, false, false, false, false, false, false, false, false, false, false, false, false, false, false, false, false, false, false, false, false, false, false, false, false, false, false, false, false] rfl rfl (by kernel_rfl) (fun _ _ _ h => h) (Or.inl ⟨by rfl, ?_⟩) hHeld ?_ ?_
  rotate_left
  · rintro w' ⟨s0, s1, s2, s3, s4, s5, s6, s7, s8, s9, s10, s11, s12, s13⟩
    go_simp
    with_reducible rfl
  rotate_left
  · simp only [Act.put, List.setIfInBounds_toArray, List.set_cons_zero, List.set_cons_succ, i64_w, i32_w]
    rfl
  refine one_ (i := 1) (N := some 13) #[true, true, false, false, false, false, false, false, false, false, false, false, false, false, false, false, false, false, false, false, false, false, false, false, false, false, false, false, false] rfl rfl (by kernel_rfl) (by decide) (fun K hK => ?_)
  refine goes_ Try.func22 (by kernel_rfl) rfl #[.agg #[.int .i64 a0_0, .int .i64 a0_1, .int .i64 a0_2, .int .i64 a0_3, .int .i64 a0_4]] (by rfl) rfl rfl (by (try simp only [List.map_toArray, List.map_cons, List.map_nil]); first | done | rfl | (simp only [List.length_drop, List.length_take]; rfl)) ?_
  (with_reducible refine (impl_IsValidKeeper.calls a0_0 a0_1 a0_2 a0_3 a0_4 true _  A4.out).mono ?_)
  rintro e wv10 ⟨rfl, hb⟩
  refine ⟨_, rfl, ?_⟩
  have hkW := (Kept.refl wv9 (fun _ => False))
  have hk2 := Kept.below hkW hb
  replace HOq2_ := Aside0.mk (Kd.R_below HOq2_.out hb)
  replace BK221 := Aside0.mk (blk_below BK221.out hb)
  replace BK222 := Aside0.mk (blk_below BK222.out hb)
  replace BK223 := Aside0.mk (blk_below BK223.out hb)
  replace BK233 := Aside0.mk (blk_below BK233.out hb)
  replace BK234 := Aside0.mk (blk_below BK234.out hb)
  replace HB := Aside0.mk (below_step (by repeat (first | (with_reducible first | exact HB.out | apply below_alloc | apply pw_below_drewN | apply below_drew1) | exact HB.out)) hb)
  replace HLA := Aside0.mk (And.intro HLA.out (hk2.1 : wv9.heap.size ≤ wv10.heap.size))
  (try clear hb)
  (try clear hkW)
  (try clear hk2)
  (try clear hkp)
  refine hK.out _ _ (lk_t5 BK234.out (lk_t7 BK221.out (lk_e2 BK222.out))) (fun hHeld => ?_)
  clear hK K
  refine norm_ (a' := ?_) ?_ ?_
  rotate_left
  · show Act.put _ (some 13) _ = _
    simp only [Act.put, List.setIfInBounds_toArray, List.set_cons_zero, List.set_cons_succ, i64_w, i32_w]
    rfl
  refine pure_ (i := 2) (N := some 14) (v := ?_) (a' := ?_) #[true, true, true, false, false, false, false, false, false, false, false, false, false, false, false, false, false, false, false, false, false, false, false, false, false, false, false, false, false] rfl rfl (by kernel_rfl) (fun _ _ _ h => h) (Or.inl ⟨by rfl, ?_⟩) ?_ ?_
  rotate_left
  · intro w'
    go_simp
    with_reducible rfl
  rotate_left
  · simp only [Act.put, List.setIfInBounds_toArray, List.set_cons_zero, List.set_cons_succ, i64_w, i32_w]
    rfl
  refine pure_ (i := 3) (N := some 15) (v := ?_) (a' := ?_) #[true, true, true, true, false, false, false, false, false, false, false, false, false, false, false, false, false, false, false, false, false, false, false, false, false, false, false, false, false] rfl rfl (by kernel_rfl) (fun _ _ _ h => h) (Or.inl ⟨by rfl, ?_⟩) ?_ ?_
  rotate_left
  · intro w'
    go_simp
    with_reducible rfl
  rotate_left
  · simp only [Act.put, List.setIfInBounds_toArray, List.set_cons_zero, List.set_cons_succ, i64_w, i32_w]
    rfl
  refine pure_ (i := 6) (N := some 18) (v := ?_) (a' := ?_) #[true, true, true, true, false, false, true, false, false, false, false, false, false, false, false, false, false, false, false, false, false, false, false, false, false, false, false, false, false] rfl rfl (by kernel_rfl) (fun _ _ _ h => h) (Or.inl ⟨by rfl, ?_⟩) ?_ ?_
  rotate_left
  · intro w'
    go_simp
    with_reducible rfl
  rotate_left
  · simp only [Act.put, List.setIfInBounds_toArray, List.set_cons_zero, List.set_cons_succ, i64_w, i32_w]
    rfl
  refine take_ (i := 4) (N := some 16) (v := ?_) (a' := ?_) #[true, true, true, true, true, false, true, false, false, false, false, false, false, false, false, false, false, false, false, false, false, false, false, false, false, false, false, false, false] rfl rfl (by kernel_rfl) (fun _ _ _ h => h) (Or.inl ⟨by rfl, ?_⟩) hHeld ?_ ?_
  rotate_left
  · rintro w' ⟨s0, s1, s2, s3, s4, s5, s6, s7, s8, s9, s10, s11, s12, s13⟩
    go_simp
    with_reducible rfl
  rotate_left
  · simp only [Act.put, List.setIfInBounds_toArray, List.set_cons_zero, List.set_cons_succ, i64_w, i32_w]
    rfl
  refine take_ (i := 7) (N := some 19) (v := ?_) (a' := ?_) #[true, true, true, true, true, false, true, true, false, false, false, false, false, false, false, false, false, false, false, false, false, false, false, false, false, false, false, false, false] rfl rfl (by kernel_rfl) (fun _ _ _ h => h) (Or.inl ⟨by rfl, ?_⟩) hHeld ?_ ?_
  rotate_left
  · rintro w' ⟨s0, s1, s2, s3, s4, s5, s6, s7, s8, s9, s10, s11, s12, s13⟩
    go_simp
    with_reducible rfl
  rotate_left
  · simp only [Act.put, List.setIfInBounds_toArray, List.set_cons_zero, List.set_cons_succ, i64_w, i32_w]
    rfl
  refine one_ (i := 5) (N := some 17) #[true, true, true, true, true, true, true, true, false, false, false, false, false, false, false, false, false, false, false, false, false, false, false, false, false, false, false, false, false] rfl rfl (by kernel_rfl) (by decide) (fun K hK => ?_)
  refine goes_ Try.func60 (by kernel_rfl) rfl #[.agg #[.int .i64 a0_0, .int .i64 a0_1, .int .i64 a0_2, .int .i64 a0_3, .int .i64 a0_4]] (by rfl) rfl rfl (by (try simp only [List.map_toArray, List.map_cons, List.map_nil]); first | done | rfl | (simp only [List.length_drop, List.length_take]; rfl)) ?_
  (with_reducible refine (impl_progress.calls a0_0 a0_1 a0_2 a0_3 a0_4 t236 _  A6.out).mono ?_)
  rintro e wv11 ⟨rfl, hb⟩
  refine ⟨_, rfl, ?_⟩
  have hkW := (Kept.refl wv10 (fun _ => False))
  have hk2 := Kept.below hkW hb
  replace HOq2_ := Aside0.mk (Kd.R_below HOq2_.out hb)
  replace BK221 := Aside0.mk (blk_below BK221.out hb)
  replace BK222 := Aside0.mk (blk_below BK222.out hb)
  replace BK223 := Aside0.mk (blk_below BK223.out hb)
  replace BK233 := Aside0.mk (blk_below BK233.out hb)
  replace BK234 := Aside0.mk (blk_below BK234.out hb)
  replace HB := Aside0.mk (below_step (by repeat (first | (with_reducible first | exact HB.out | apply below_alloc | apply pw_below_drewN | apply below_drew1) | exact HB.out)) hb)
  replace HLA := Aside0.mk (And.intro HLA.out (hk2.1 : wv10.heap.size ≤ wv11.heap.size))
  (try clear hb)
  (try clear hkW)
  (try clear hk2)
  (try clear hkp)
  refine hK.out _ _ (lk_t5 BK234.out (lk_t7 BK221.out (lk_e2 BK222.out))) (fun hHeld => ?_)
  clear hK K
  refine norm_ (a' := ?_) ?_ ?_
  rotate_left
  · show Act.put _ (some 17) _ = _
    simp only [Act.put, List.setIfInBounds_toArray, List.set_cons_zero, List.set_cons_succ, i64_w, i32_w]
    rfl
  refine pure_ (i := 8) (N := some 20) (v := ?_) (a' := ?_) #[true, true, true, true, true, true, true, true, true, false, false, false, false, false, false, false, false, false, false, false, false, false, false, false, false, false, false, false, false] rfl rfl (by kernel_rfl) (fun _ _ _ h => h) (Or.inl ⟨by rfl, ?_⟩) ?_ ?_
  rotate_left
  · intro w'
    go_simp
    with_reducible rfl
  rotate_left
  · simp only [Act.put, List.setIfInBounds_toArray, List.set_cons_zero, List.set_cons_succ, i64_w, i32_w]
    rfl
  refine pure_ (i := 9) (N := some 21) (v := ?_) (a' := ?_) #[true, true, true, true, true, true, true, true, true, true, false, false, false, false, false, false, false, false, false, false, false, false, false, false, false, false, false, false, false] rfl rfl (by kernel_rfl) (fun _ _ _ h => h) (Or.inl ⟨by rfl, ?_⟩) ?_ ?_
  rotate_left
  · intro w'
    go_simp
    with_reducible rfl
  rotate_left
  · simp only [Act.put, List.setIfInBounds_toArray, List.set_cons_zero, List.set_cons_succ, i64_w, i32_w]
    rfl
  refine pure_ (i := 10) (N := some 22) (v := ?_) (a' := ?_) #[true, true, true, true, true, true, true, true, true, true, true, false, false, false, false, false, false, false, false, false, false, false, false, false, false, false, false, false, false] rfl rfl (by kernel_rfl) (fun _ _ _ h => h) (Or.inl ⟨by rfl, ?_⟩) ?_ ?_
  rotate_left
  · intro w'
    go_simp
    with_reducible rfl
  rotate_left
  · simp only [Act.put, List.setIfInBounds_toArray, List.set_cons_zero, List.set_cons_succ, i64_w, i32_w]
    rfl
  refine pure_ (i := 11) (N := some 23) (v := ?_) (a' := ?_) #[true, true, true, true, true, true, true, true, true, true, true, true, false, false, false, false, false, false, false, false, false, false, false, false, false, false, false, false, false] rfl rfl (by kernel_rfl) (fun _ _ _ h => h) (Or.inl ⟨by rfl, ?_⟩) ?_ ?_
  rotate_left
  · intro w'
    go_simp
    with_reducible rfl
  rotate_left
  · simp only [Act.put, List.setIfInBounds_toArray, List.set_cons_zero, List.set_cons_succ, i64_w, i32_w]
    rfl
  refine take_ (i := 12) (N := some 24) (v := ?_) (a' := ?_) #[true, true, true, true, true, true, true, true, true, true, true, true, true, false, false, false, false, false, false, false, false, false, false, false, false, false, false, false, false] rfl rfl (by kernel_rfl) (fun _ _ _ h => h) (Or.inl ⟨by rfl, ?_⟩) hHeld ?_ ?_
  rotate_left
  · rintro w' ⟨s0, s1, s2, s3, s4, s5, s6, s7, s8, s9, s10, s11, s12, s13⟩
    go_simp
    with_reducible rfl
  rotate_left
  · simp only [Act.put, List.setIfInBounds_toArray, List.set_cons_zero, List.set_cons_succ, i64_w, i32_w]
    rfl
  refine pure_ (i := 13) (N := some 25) (v := ?_) (a' := ?_) #[true, true, true, true, true, true, true, true, true, true, true, true, true, true, false, false, false, false, false, false, false, false, false, false, false, false, false, false, false] rfl rfl (by kernel_rfl) (fun _ _ _ h => h) (Or.inl ⟨by rfl, ?_⟩) ?_ ?_
  rotate_left
  · intro w'
    go_simp
    with_reducible rfl
  rotate_left
  · simp only [Act.put, List.setIfInBounds_toArray, List.set_cons_zero, List.set_cons_succ, i64_w, i32_w]
    rfl
  refine pure_ (i := 14) (N := some 26) (v := ?_) (a' := ?_) #[true, true, true, true, true, true, true, true, true, true, true, true, true, true, true, false, false, false, false, false, false, false, false, false, false, false, false, false, false] rfl rfl (by kernel_rfl) (fun _ _ _ h => h) (Or.inl ⟨by rfl, ?_⟩) ?_ ?_
  rotate_left
  · intro w'
    go_simp
    with_reducible rfl
  rotate_left
  · simp only [Act.put, List.setIfInBounds_toArray, List.set_cons_zero, List.set_cons_succ, i64_w, i32_w]
    rfl
  refine pure_ (i := 15) (N := some 27) (v := ?_) (a' := ?_) #[true, true, true, true, true, true, true, true, true, true, true, true, true, true, true, true, false, false, false, false, false, false, false, false, false, false, false, false, false] rfl rfl (by kernel_rfl) (fun _ _ _ h => h) (Or.inl ⟨by rfl, ?_⟩) ?_ ?_
  rotate_left
  · intro w'
    go_simp
    with_reducible rfl
  rotate_left
  · simp only [Act.put, List.setIfInBounds_toArray, List.set_cons_zero, List.set_cons_succ, i64_w, i32_w]
    rfl
  refine pure_ (i := 16) (N := some 28) (v := ?_) (a' := ?_) #[true, true, true, true, true, true, true, true, true, true, true, true, true, true, true, true, true, false, false, false, false, false, false, false, false, false, false, false, false] rfl rfl (by kernel_rfl) (fun _ _ _ h => h) (Or.inl ⟨by rfl, ?_⟩) ?_ ?_
  rotate_left
  · intro w'
    go_simp
    with_reducible rfl
  rotate_left
  · simp only [Act.put, List.setIfInBounds_toArray, List.set_cons_zero, List.set_cons_succ, i64_w, i32_w]
    rfl
  refine pure_ (i := 18) (N := some 30) (v := ?_) (a' := ?_) #[true, true, true, true, true, true, true, true, true, true, true, true, true, true, true, true, true, false, true, false, false, false, false, false, false, false, false, false, false] rfl rfl (by kernel_rfl) (fun _ _ _ h => h) (Or.inl ⟨by rfl, ?_⟩) ?_ ?_
  rotate_left
  · intro w'
    go_simp
    with_reducible rfl
  rotate_left
  · simp only [Act.put, List.setIfInBounds_toArray, List.set_cons_zero, List.set_cons_succ, i64_w, i32_w]
    rfl
  refine pure_ (i := 19) (N := some 31) (v := ?_) (a' := ?_) #[true, true, true, true, true, true, true, true, true, true, true, true, true, true, true, true, true, false, true, true, false, false, false, false, false, false, false, false, false] rfl rfl (by kernel_rfl) (fun _ _ _ h => h) (Or.inl ⟨by rfl, ?_⟩) ?_ ?_
  rotate_left
  · intro w'
    go_simp
    with_reducible rfl
  rotate_left
  · simp only [Act.put, List.setIfInBounds_toArray, List.set_cons_zero, List.set_cons_succ, i64_w, i32_w]
    rfl
  refine take_ (i := 17) (N := some 29) (v := ?_) (a' := ?_) #[true, true, true, true, true, true, true, true, true, true, true, true, true, true, true, true, true, true, true, true, false, false, false, false, false, false, false, false, false] rfl rfl (by kernel_rfl) (fun _ _ _ h => h) (Or.inl ⟨by rfl, ?_⟩) hHeld ?_ ?_
  rotate_left
  · rintro w' ⟨s0, s1, s2, s3, s4, s5, s6, s7, s8, s9, s10, s11, s12, s13⟩
    go_simp
    with_reducible rfl
  rotate_left
  · simp only [Act.put, List.setIfInBounds_toArray, List.set_cons_zero, List.set_cons_succ, i64_w, i32_w]
    rfl
  refine take_ (i := 20) (N := some 32) (v := ?_) (a' := ?_) #[true, true, true, true, true, true, true, true, true, true, true, true, true, true, true, true, true, true, true, true, true, false, false, false, false, false, false, false, false] rfl rfl (by kernel_rfl) (fun _ _ _ h => h) (Or.inl ⟨by rfl, ?_⟩) hHeld ?_ ?_
  rotate_left
  · rintro w' ⟨s0, s1, s2, s3, s4, s5, s6, s7, s8, s9, s10, s11, s12, s13⟩
    go_simp
    with_reducible rfl
  rotate_left
  · simp only [Act.put, List.setIfInBounds_toArray, List.set_cons_zero, List.set_cons_succ, i64_w, i32_w]
    rfl
  refine pure_ (i := 21) (N := some 33) (v := ?_) (a' := ?_) #[true, true, true, true, true, true, true, true, true, true, true, true, true, true, true, true, true, true, true, true, true, true, false, false, false, false, false, false, false] rfl rfl (by kernel_rfl) (fun _ _ _ h => h) (Or.inl ⟨by rfl, ?_⟩) ?_ ?_
  rotate_left
  · intro w'
    go_simp
    with_reducible rfl
  rotate_left
  · simp only [Act.put, List.setIfInBounds_toArray, List.set_cons_zero, List.set_cons_succ, i64_w, i32_w]
    rfl
  refine pure_ (i := 22) (N := some 34) (v := ?_) (a' := ?_) #[true, true, true, true, true, true, true, true, true, true, true, true, true, true, true, true, true, true, true, true, true, true, true, false, false, false, false, false, false] rfl rfl (by kernel_rfl) (fun _ _ _ h => h) (Or.inl ⟨by rfl, ?_⟩) ?_ ?_
  rotate_left
  · intro w'
    go_simp
    with_reducible rfl
  rotate_left
  · simp only [Act.put, List.setIfInBounds_toArray, List.set_cons_zero, List.set_cons_succ, i64_w, i32_w]
    rfl
  refine pure_ (i := 23) (N := some 35) (v := ?_) (a' := ?_) #[true, true, true, true, true, true, true, true, true, true, true, true, true, true, true, true, true, true, true, true, true, true, true, true, false, false, false, false, false] rfl rfl (by kernel_rfl) (fun _ _ _ h => h) (Or.inl ⟨by rfl, ?_⟩) ?_ ?_
  rotate_left
  · intro w'
    go_simp
    with_reducible rfl
  rotate_left
  · simp only [Act.put, List.setIfInBounds_toArray, List.set_cons_zero, List.set_cons_succ, i64_w, i32_w]
    rfl
  refine take_ (i := 24) (N := some 36) (v := ?_) (a' := ?_) #[true, true, true, true, true, true, true, true, true, true, true, true, true, true, true, true, true, true, true, true, true, true, true, true, true, false, false, false, false] rfl rfl (by kernel_rfl) (fun _ _ _ h => h) (Or.inl ⟨by rfl, ?_⟩) hHeld ?_ ?_
  rotate_left
  · rintro w' ⟨s0, s1, s2, s3, s4, s5, s6, s7, s8, s9, s10, s11, s12, s13⟩
    go_simp
    with_reducible rfl
  rotate_left
  · simp only [Act.put, List.setIfInBounds_toArray, List.set_cons_zero, List.set_cons_succ, i64_w, i32_w]
    rfl
  refine one_ (i := 25) (N := some 37) #[true, true, true, true, true, true, true, true, true, true, true, true, true, true, true, true, true, true, true, true, true, true, true, true, true, true, false, false, false] rfl rfl (by kernel_rfl) (by decide) (fun K hK => ?_)
  refine Kd.R_lit_step k26 _ 26 ?hg (N := 37) ?hd (xs := ([(⟨a1_0, a1_1⟩ : S26)] : List (S26))) (inner := [.int .i64 a1_0, .int .i64 a1_1]) (ok := fun _ => True) (okp := fun _ => True) ?hr ?hp (fun _ hk => hk) trivial (Below.refl _ _) (Nat.le_refl _) (by simp) ?_
  (case hd => rfl)
  (case hg => rfl)
  (case hr => first | (go_simp; done) | (go_simp; rfl))
  (case hp => exact (Reps.c2 (show Kd.M k26 _ _ _ (⟨a1_0, a1_1⟩ : S26) [.int .i64 a1_0, .int .i64 a1_1] from (k26_mkM _ _ _ (⟨a1_0, a1_1⟩ : S26) )) (Reps.none _ _)))
  intro vq6_ wv12 ho0 hb hg_ hnew_
  clear hg_ hnew_
  (first | rw [← Ny237.out] at ho0 | (simp only [Int.reduceToNat] at ho0; rw [← Ny237.out] at ho0))
  have hkW := (Kept.refl wv11 (fun _ => False))
  have hk2 := Kept.below hkW hb
  obtain ⟨Aq6_, cq6_, rfl⟩ := Kd.R_slice ho0
  obtain ⟨okq6_, hoo0, hi0⟩ := lk_R ho0 (a := wv11.heap.size) (b := w.heap.size) hkW.1 (Nat.le_trans HB.out.size hkW.1)
  have HOq6_ := Aside0.mk (hoo0)
  have HIq6_ := Aside0.mk (hi0)
  replace HOq2_ := Aside0.mk (Kd.R_below HOq2_.out hb)
  replace BK221 := Aside0.mk (blk_below BK221.out hb)
  replace BK222 := Aside0.mk (blk_below BK222.out hb)
  replace BK223 := Aside0.mk (blk_below BK223.out hb)
  replace BK233 := Aside0.mk (blk_below BK233.out hb)
  replace BK234 := Aside0.mk (blk_below BK234.out hb)
  replace HB := Aside0.mk (below_step (by repeat (first | (with_reducible first | exact HB.out | apply below_alloc | apply pw_below_drewN | apply below_drew1) | exact HB.out)) hb)
  replace HLA := Aside0.mk (And.intro HLA.out (hk2.1 : wv11.heap.size ≤ wv12.heap.size))
  (try clear hb)
  (try clear hkW)
  (try clear hk2)
  (try clear hoo0)
  (try clear hi0)
  (try clear ho0)
  refine hK.out _ _ (lk_t5 BK234.out (lk_t7 BK221.out (lk_e2 BK222.out))) (fun hHeld => ?_)
  clear hK K
  refine norm_ (a' := ?_) ?_ ?_
  rotate_left
  · show Act.put _ (some 37) _ = _
    simp only [Act.put, List.setIfInBounds_toArray, List.set_cons_zero, List.set_cons_succ, i64_w, i32_w]
    rfl
  refine one_ (i := 26) (N := some 38) #[true, true, true, true, true, true, true, true, true, true, true, true, true, true, true, true, true, true, true, true, true, true, true, true, true, true, true, false, false] rfl rfl (by kernel_rfl) (by decide) (fun K hK => ?_)
  refine goes_ Try.func67 (by kernel_rfl) rfl #[.slice Aq6_ y237.length cq6_] (by rfl) rfl rfl (by (try simp only [List.map_toArray, List.map_cons, List.map_nil]); first | done | rfl | (simp only [List.length_drop, List.length_take]; rfl)) ?_
  (with_reducible refine (impl_AreShares.calls _ _ y237 t240 _ ?side1 ?side2 A10.out).mono ?_)
  (case side1 => exact (Kd.R_reads' HOq6_.out).2.2)
  (case side2 => have h1_ := (Kd.R_reads' HOq6_.out).1; have h2_ := (Kd.R_reads' HOq6_.out).2.1; omega)
  rintro e wv13 ⟨rfl, hb⟩
  refine ⟨_, rfl, ?_⟩
  have hkW := (Kept.refl wv12 (fun _ => False))
  have hk2 := Kept.below hkW hb
  replace HOq2_ := Aside0.mk (Kd.R_below HOq2_.out hb)
  replace HOq6_ := Aside0.mk (Kd.R_below HOq6_.out hb)
  replace BK221 := Aside0.mk (blk_below BK221.out hb)
  replace BK222 := Aside0.mk (blk_below BK222.out hb)
  replace BK223 := Aside0.mk (blk_below BK223.out hb)
  replace BK233 := Aside0.mk (blk_below BK233.out hb)
  replace BK234 := Aside0.mk (blk_below BK234.out hb)
  replace HB := Aside0.mk (below_step (by repeat (first | (with_reducible first | exact HB.out | apply below_alloc | apply pw_below_drewN | apply below_drew1) | exact HB.out)) hb)
  replace HLA := Aside0.mk (And.intro HLA.out (hk2.1 : wv12.heap.size ≤ wv13.heap.size))
  (try clear hb)
  (try clear hkW)
  (try clear hk2)
  (try clear hkp)
  refine hK.out _ _ (lk_t5 BK234.out (lk_t7 BK221.out (lk_e2 BK222.out))) (fun hHeld => ?_)
  clear hK K
  refine norm_ (a' := ?_) ?_ ?_
  rotate_left
  · show Act.put _ (some 38) _ = _
    simp only [Act.put, List.setIfInBounds_toArray, List.set_cons_zero, List.set_cons_succ, i64_w, i32_w]
    rfl
  refine pure_ (i := 27) (N := some 39) (v := ?_) (a' := ?_) #[true, true, true, true, true, true, true, true, true, true, true, true, true, true, true, true, true, true, true, true, true, true, true, true, true, true, true, true, false] rfl rfl (by kernel_rfl) (fun _ _ _ h => h) (Or.inl ⟨by rfl, ?_⟩) ?_ ?_
  rotate_left
  · intro w'
    go_simp
    with_reducible rfl
  rotate_left
  · simp only [Act.put, List.setIfInBounds_toArray, List.set_cons_zero, List.set_cons_succ, i64_w, i32_w]
    rfl
  refine pure_ (i := 28) (N := some 40) (v := ?_) (a' := ?_) #[true, true, true, true, true, true, true, true, true, true, true, true, true, true, true, true, true, true, true, true, true, true, true, true, true, true, true, true, true] rfl rfl (by kernel_rfl) (fun _ _ _ h => h) (Or.inl ⟨by rfl, ?_⟩) ?_ ?_
  rotate_left
  · intro w'
    go_simp
    with_reducible rfl
  rotate_left
  · simp only [Act.put, List.setIfInBounds_toArray, List.set_cons_zero, List.set_cons_succ, i64_w, i32_w]
    rfl
  refine done_ (by kernel_rfl) ?_
  (try clear hHeld)
  go_upto_if 40 with (fail)
  have H := HC11.out
  clear HC11
  by_cases c12 : t240 = true
  rotate_left
  · replace c12 := Bool.eq_false_iff.mpr c12
    subst c12
    have H1 : (some (t224, t225, t226, t227, t228, t229, t232, false)) = some (r1, r2, r3, r4, r5, r6, r7, r8) := by rw [if_neg (show ¬ (false = true) by decide)] at H; exact H
    clear H
    have H := H1
    clear H1
    simp only [Option.some.injEq, Prod.mk.injEq] at H
    obtain ⟨rfl, rfl, rfl, rfl, rfl, rfl, rfl, rfl⟩ := H
    obtain ⟨hcz7_0, hcz7_1, hcz7_2, hcz7_3, hcz7_4, hcz7_5, hcz7_6, hcz7_f0, hcz7_f1, hcz7_f2, hcz7_f3, hcz7_f4, hcz7_f5, hcz7_f6⟩ := lk_c7 BK233.out
    obtain ⟨hcz8_0, hcz8_1, hcz8_2, hcz8_3, hcz8_4, hcz8_5, hcz8_6, hcz8_f0, hcz8_f1, hcz8_f2, hcz8_f3, hcz8_f4, hcz8_f5, hcz8_f6⟩ := lk_c7 BK223.out
    have hnb9_ : gb233 ≠ gb223 := (by have g1_ := HG233.out; have g2_ := HG223.out; have z_ := HLA.out; omega)
    have hnb10_ : gb223 ≠ gb233 := (by have g1_ := HG223.out; have g2_ := HG233.out; have z_ := HLA.out; omega)
    go_wp2_with (first | ((with_reducible refine gate_store (t := 31) (p := 4) rfl ?_); refine store_event (t := 31) (p := 4) (v := ?vo_lg28) (w1 := (((((((wv13.setCell ⟨gb223, 0, none⟩ (.int .i64 t224)).setCell ⟨gb223, 1, none⟩ (.int .i64 t225)).setCell ⟨gb223, 2, none⟩ (.int .i64 t226)).setCell ⟨gb223, 3, none⟩ (.int .i64 t227)).setCell ⟨gb223, 4, none⟩ (.int .i64 t228)).setCell ⟨gb223, 5, none⟩ (.slice Aq2_ t229.length cq2_)).setCell ⟨gb223, 6, none⟩ (.int .i64 t232))) ?hg ?ho ?hn ?hr ?_; (case ho => rfl); (case hg => rfl); (case hn => rfl); (case hr => first | (go_simp; done) | (go_simp; rfl)); intro wv14 hw; have hk2 := (show Kept wv13 wv14 (fun k_ => k_ = gb223) from by rw [hw]; exact (show Kept wv13 (((((((wv13.setCell ⟨gb223, 0, none⟩ (.int .i64 t224)).setCell ⟨gb223, 1, none⟩ (.int .i64 t225)).setCell ⟨gb223, 2, none⟩ (.int .i64 t226)).setCell ⟨gb223, 3, none⟩ (.int .i64 t227)).setCell ⟨gb223, 4, none⟩ (.int .i64 t228)).setCell ⟨gb223, 5, none⟩ (.slice Aq2_ t229.length cq2_)).setCell ⟨gb223, 6, none⟩ (.int .i64 t232)) (fun k_ => k_ = gb223) from by repeat (first | (with_reducible first | exact Kept.refl _ _ | apply Kept.alloc | apply Kept.drewN | apply Kept.drew) | refine Kept.setCell ?_ (.inl (by first | exact rfl | exact .inl rfl | exact .inr rfl | exact .inr (.inl rfl) | exact .inr (.inr rfl))) _ | exact Kept.refl _ _))); replace HOq2_ := Aside0.mk (Kd.R_kept HOq2_.out hk2 (fun k_ hk_ hs_ => by have i_ := HIq2_.out k_ hk_; have hs2_ : k_ = gb223 := hs_; have g0_ := HG223.out; have z_ := HLA.out; omega)); replace HOq6_ := Aside0.mk (Kd.R_kept HOq6_.out hk2 (fun k_ hk_ hs_ => by have i_ := HIq6_.out k_ hk_; have hs2_ : k_ = gb223 := hs_; have g0_ := HG223.out; have z_ := HLA.out; omega)); replace BK221 := Aside0.mk (blk_kept BK221.out hk2 (fun hs_ => by have hs2_ : gb221 = gb223 := hs_; have g_ := HG221.out; have g0_ := HG223.out; have z_ := HLA.out; omega)); replace BK222 := Aside0.mk (blk_kept BK222.out hk2 (fun hs_ => by have hs2_ : gb222 = gb223 := hs_; have g_ := HG222.out; have g0_ := HG223.out; have z_ := HLA.out; omega)); replace BK223 := Aside0.mk ((show wv14.heap[gb223]? = some (Obj.cells #[.int .i64 t224, .int .i64 t225, .int .i64 t226, .int .i64 t227, .int .i64 t228, .slice Aq2_ t229.length cq2_, .int .i64 t232] 31 (0, 0)) from by rw [hw]; exact (show _ = some (Obj.cells #[.int .i64 t224, .int .i64 t225, .int .i64 t226, .int .i64 t227, .int .i64 t228, .slice Aq2_ t229.length cq2_, .int .i64 t232] 31 (0, 0)) from by (with_reducible repeat (first | refine blk_drewN ?_ _ | refine blk_drew ?_ | refine blk_alloc ?_ _)); refine blk_put (cs := #[.int .i64 t224, .int .i64 t225, .int .i64 t226, .int .i64 t227, .int .i64 t228, .slice Aq2_ t229.length cq2_, .int .i64 0]) ?_ 6 _ rfl; (with_reducible repeat (first | refine blk_drewN ?_ _ | refine blk_drew ?_ | refine blk_alloc ?_ _)); refine blk_put (cs := #[.int .i64 t224, .int .i64 t225, .int .i64 t226, .int .i64 t227, .int .i64 t228, .slice none 0 0, .int .i64 0]) ?_ 5 _ rfl; (with_reducible repeat (first | refine blk_drewN ?_ _ | refine blk_drew ?_ | refine blk_alloc ?_ _)); refine blk_put (cs := #[.int .i64 t224, .int .i64 t225, .int .i64 t226, .int .i64 t227, .int .i64 0, .slice none 0 0, .int .i64 0]) ?_ 4 _ rfl; (with_reducible repeat (first | refine blk_drewN ?_ _ | refine blk_drew ?_ | refine blk_alloc ?_ _)); refine blk_put (cs := #[.int .i64 t224, .int .i64 t225, .int .i64 t226, .int .i64 0, .int .i64 0, .slice none 0 0, .int .i64 0]) ?_ 3 _ rfl; (with_reducible repeat (first | refine blk_drewN ?_ _ | refine blk_drew ?_ | refine blk_alloc ?_ _)); refine blk_put (cs := #[.int .i64 t224, .int .i64 t225, .int .i64 0, .int .i64 0, .int .i64 0, .slice none 0 0, .int .i64 0]) ?_ 2 _ rfl; (with_reducible repeat (first | refine blk_drewN ?_ _ | refine blk_drew ?_ | refine blk_alloc ?_ _)); refine blk_put (cs := #[.int .i64 t224, .int .i64 0, .int .i64 0, .int .i64 0, .int .i64 0, .slice none 0 0, .int .i64 0]) ?_ 1 _ rfl; (with_reducible repeat (first | refine blk_drewN ?_ _ | refine blk_drew ?_ | refine blk_alloc ?_ _)); refine blk_put (cs := #[.int .i64 0, .int .i64 0, .int .i64 0, .int .i64 0, .int .i64 0, .slice none 0 0, .int .i64 0]) ?_ 0 _ rfl; (with_reducible repeat (first | refine blk_drewN ?_ _ | refine blk_drew ?_ | refine blk_alloc ?_ _)); exact BK223.out))); replace BK233 := Aside0.mk (blk_kept BK233.out hk2 (fun hs_ => by have hs2_ : gb233 = gb223 := hs_; have g_ := HG233.out; have g0_ := HG223.out; have z_ := HLA.out; omega)); replace BK234 := Aside0.mk (blk_kept BK234.out hk2 (fun hs_ => by have hs2_ : gb234 = gb223 := hs_; have g_ := HG234.out; have g0_ := HG223.out; have z_ := HLA.out; omega)); replace HB := Aside0.mk ((show Below w.heap.size w wv14 from by rw [hw]; exact by repeat (first | (with_reducible first | exact HB.out | apply below_alloc | apply pw_below_drewN | apply below_drew1 | refine below_set ?_ GE223.out) | exact HB.out))); replace HLA := Aside0.mk (And.intro HLA.out (hk2.1 : wv13.heap.size ≤ wv14.heap.size)); clear hw hk2))
    refine bodyPost_ret (results_ct rfl _ _ gb223 31 #[.int .i64 t224, .int .i64 t225, .int .i64 t226, .int .i64 t227, .int .i64 t228, .slice Aq2_ t229.length cq2_, .int .i64 t232] (0, 0) _ rfl (BK223.out) Try.underlying31 rfl (by kernel_rfl)) rfl ?_
    exact ⟨_, by first | rfl | (simp [errW_none, errW_some] <;> rfl) | (simp [*] <;> rfl), Kd.R_mono HOq2_.out (fun _ _ => trivial), by repeat (first | (with_reducible first | exact HB.out | apply below_alloc | apply pw_below_drewN | apply below_drew1) | exact HB.out)⟩
  subst c12
  have H1 : ((impl_progress.f a1_0 a1_1 (wrap64 (a0_2 + 1)) 0 a0_4).bind fun t241 => (some (a1_0, a1_1, wrap64 (a0_2 + 1), 0, a0_4, t229, t241, true))) = some (r1, r2, r3, r4, r5, r6, r7, r8) := by rw [if_pos rfl] at H; exact H
  clear H
  have H := H1
  clear H1
  replace H := Option.bind_eq_some_iff.mp H
  obtain ⟨t241, A130, H⟩ := H
  replace H : (some (a1_0, a1_1, wrap64 (a0_2 + 1), 0, a0_4, t229, t241, true)) = some (r1, r2, r3, r4, r5, r6, r7, r8) := H
  have A13 := Aside0.mk A130
  clear A130
  simp only [Option.some.injEq, Prod.mk.injEq] at H
  obtain ⟨rfl, rfl, rfl, rfl, rfl, rfl, rfl, rfl⟩ := H
  obtain ⟨hcz7_0, hcz7_1, hcz7_f0, hcz7_f1⟩ := lk_c2 BK222.out
  obtain ⟨hcz8_0, hcz8_1, hcz8_2, hcz8_3, hcz8_4, hcz8_f0, hcz8_f1, hcz8_f2, hcz8_f3, hcz8_f4⟩ := lk_c5 BK234.out
  have hnb9_ : gb222 ≠ gb234 := (by have g1_ := HG222.out; have g2_ := HG234.out; have z_ := HLA.out; omega)
  have hnb10_ : gb234 ≠ gb222 := (by have g1_ := HG234.out; have g2_ := HG222.out; have z_ := HLA.out; omega)
  go_wp2_with (first | ((with_reducible refine gate_store (t := 26) (p := 43) rfl ?_); refine store_event (t := 26) (p := 43) (v := ?vo_lg22) (w1 := ((wv13.setCell ⟨gb234, 0, none⟩ (.int .i64 a1_0)).setCell ⟨gb234, 1, none⟩ (.int .i64 a1_1))) ?hg ?ho ?hn ?hr ?_; (case ho => rfl); (case hg => rfl); (case hn => rfl); (case hr => first | (go_simp; done) | (go_simp; rfl)); intro wv14 hw; have hk2 := (show Kept wv13 wv14 (fun k_ => k_ = gb234) from by rw [hw]; exact (show Kept wv13 ((wv13.setCell ⟨gb234, 0, none⟩ (.int .i64 a1_0)).setCell ⟨gb234, 1, none⟩ (.int .i64 a1_1)) (fun k_ => k_ = gb234) from by repeat (first | (with_reducible first | exact Kept.refl _ _ | apply Kept.alloc | apply Kept.drewN | apply Kept.drew) | refine Kept.setCell ?_ (.inl (by first | exact rfl | exact .inl rfl | exact .inr rfl | exact .inr (.inl rfl) | exact .inr (.inr rfl))) _ | exact Kept.refl _ _))); replace HOq2_ := Aside0.mk (Kd.R_kept HOq2_.out hk2 (fun k_ hk_ hs_ => by have i_ := HIq2_.out k_ hk_; have hs2_ : k_ = gb234 := hs_; have g0_ := HG234.out; have z_ := HLA.out; omega)); replace HOq6_ := Aside0.mk (Kd.R_kept HOq6_.out hk2 (fun k_ hk_ hs_ => by have i_ := HIq6_.out k_ hk_; have hs2_ : k_ = gb234 := hs_; have g0_ := HG234.out; have z_ := HLA.out; omega)); replace BK221 := Aside0.mk (blk_kept BK221.out hk2 (fun hs_ => by have hs2_ : gb221 = gb234 := hs_; have g_ := HG221.out; have g0_ := HG234.out; have z_ := HLA.out; omega)); replace BK222 := Aside0.mk (blk_kept BK222.out hk2 (fun hs_ => by have hs2_ : gb222 = gb234 := hs_; have g_ := HG222.out; have g0_ := HG234.out; have z_ := HLA.out; omega)); replace BK223 := Aside0.mk (blk_kept BK223.out hk2 (fun hs_ => by have hs2_ : gb223 = gb234 := hs_; have g_ := HG223.out; have g0_ := HG234.out; have z_ := HLA.out; omega)); replace BK233 := Aside0.mk (blk_kept BK233.out hk2 (fun hs_ => by have hs2_ : gb233 = gb234 := hs_; have g_ := HG233.out; have g0_ := HG234.out; have z_ := HLA.out; omega)); replace BK234 := Aside0.mk ((show wv14.heap[gb234]? = some (Obj.cells #[.int .i64 a1_0, .int .i64 a1_1, .int .i64 a0_2, .int .i64 a0_3, .int .i64 a0_4] 28 (0, 0)) from by rw [hw]; exact (show _ = some (Obj.cells #[.int .i64 a1_0, .int .i64 a1_1, .int .i64 a0_2, .int .i64 a0_3, .int .i64 a0_4] 28 (0, 0)) from by (with_reducible repeat (first | refine blk_drewN ?_ _ | refine blk_drew ?_ | refine blk_alloc ?_ _)); refine blk_put (cs := #[.int .i64 a1_0, .int .i64 a0_1, .int .i64 a0_2, .int .i64 a0_3, .int .i64 a0_4]) ?_ 1 _ rfl; (with_reducible repeat (first | refine blk_drewN ?_ _ | refine blk_drew ?_ | refine blk_alloc ?_ _)); refine blk_put (cs := #[.int .i64 a0_0, .int .i64 a0_1, .int .i64 a0_2, .int .i64 a0_3, .int .i64 a0_4]) ?_ 0 _ rfl; (with_reducible repeat (first | refine blk_drewN ?_ _ | refine blk_drew ?_ | refine blk_alloc ?_ _)); exact BK234.out))); replace HB := Aside0.mk ((show Below w.heap.size w wv14 from by rw [hw]; exact by repeat (first | (with_reducible first | exact HB.out | apply below_alloc | apply pw_below_drewN | apply below_drew1 | refine below_set ?_ GE234.out) | exact HB.out))); replace HLA := Aside0.mk (And.intro HLA.out (hk2.1 : wv13.heap.size ≤ wv14.heap.size)); clear hw hk2; obtain ⟨hcz11_0, hcz11_1, hcz11_2, hcz11_3, hcz11_4, hcz11_f0, hcz11_f1, hcz11_f2, hcz11_f3, hcz11_f4⟩ := lk_c5 BK234.out) | ((with_reducible refine gate_store (t := 3) (p := 47) rfl ?_); refine store_event (t := 3) (p := 47) (v := ?vo_lg23) (w1 := (wv14.setCell ⟨gb234, 2, none⟩ (.int .i64 (wrap64 (a0_2 + 1))))) ?hg ?ho ?hn ?hr ?_; (case ho => rfl); (case hg => rfl); (case hn => rfl); (case hr => first | (go_simp; done) | (go_simp; rfl)); intro wv15 hw; have hk2 := (show Kept wv14 wv15 (fun k_ => k_ = gb234) from by rw [hw]; exact (show Kept wv14 (wv14.setCell ⟨gb234, 2, none⟩ (.int .i64 (wrap64 (a0_2 + 1)))) (fun k_ => k_ = gb234) from by repeat (first | (with_reducible first | exact Kept.refl _ _ | apply Kept.alloc | apply Kept.drewN | apply Kept.drew) | refine Kept.setCell ?_ (.inl (by first | exact rfl | exact .inl rfl | exact .inr rfl | exact .inr (.inl rfl) | exact .inr (.inr rfl))) _ | exact Kept.refl _ _))); replace HOq2_ := Aside0.mk (Kd.R_kept HOq2_.out hk2 (fun k_ hk_ hs_ => by have i_ := HIq2_.out k_ hk_; have hs2_ : k_ = gb234 := hs_; have g0_ := HG234.out; have z_ := HLA.out; omega)); replace HOq6_ := Aside0.mk (Kd.R_kept HOq6_.out hk2 (fun k_ hk_ hs_ => by have i_ := HIq6_.out k_ hk_; have hs2_ : k_ = gb234 := hs_; have g0_ := HG234.out; have z_ := HLA.out; omega)); replace BK221 := Aside0.mk (blk_kept BK221.out hk2 (fun hs_ => by have hs2_ : gb221 = gb234 := hs_; have g_ := HG221.out; have g0_ := HG234.out; have z_ := HLA.out; omega)); replace BK222 := Aside0.mk (blk_kept BK222.out hk2 (fun hs_ => by have hs2_ : gb222 = gb234 := hs_; have g_ := HG222.out; have g0_ := HG234.out; have z_ := HLA.out; omega)); replace BK223 := Aside0.mk (blk_kept BK223.out hk2 (fun hs_ => by have hs2_ : gb223 = gb234 := hs_; have g_ := HG223.out; have g0_ := HG234.out; have z_ := HLA.out; omega)); replace BK233 := Aside0.mk (blk_kept BK233.out hk2 (fun hs_ => by have hs2_ : gb233 = gb234 := hs_; have g_ := HG233.out; have g0_ := HG234.out; have z_ := HLA.out; omega)); replace BK234 := Aside0.mk ((show wv15.heap[gb234]? = some (Obj.cells #[.int .i64 a1_0, .int .i64 a1_1, .int .i64 (wrap64 (a0_2 + 1)), .int .i64 a0_3, .int .i64 a0_4] 28 (0, 0)) from by rw [hw]; exact (show _ = some (Obj.cells #[.int .i64 a1_0, .int .i64 a1_1, .int .i64 (wrap64 (a0_2 + 1)), .int .i64 a0_3, .int .i64 a0_4] 28 (0, 0)) from by (with_reducible repeat (first | refine blk_drewN ?_ _ | refine blk_drew ?_ | refine blk_alloc ?_ _)); refine blk_put (cs := #[.int .i64 a1_0, .int .i64 a1_1, .int .i64 a0_2, .int .i64 a0_3, .int .i64 a0_4]) ?_ 2 _ rfl; (with_reducible repeat (first | refine blk_drewN ?_ _ | refine blk_drew ?_ | refine blk_alloc ?_ _)); exact BK234.out))); replace HB := Aside0.mk ((show Below w.heap.size w wv15 from by rw [hw]; exact by repeat (first | (with_reducible first | exact HB.out | apply below_alloc | apply pw_below_drewN | apply below_drew1 | refine below_set ?_ GE234.out) | exact HB.out))); replace HLA := Aside0.mk (And.intro HLA.out (hk2.1 : wv14.heap.size ≤ wv15.heap.size)); clear hw hk2; obtain ⟨hcz12_0, hcz12_1, hcz12_2, hcz12_3, hcz12_4, hcz12_f0, hcz12_f1, hcz12_f2, hcz12_f3, hcz12_f4⟩ := lk_c5 BK234.out) | ((with_reducible refine gate_store (t := 3) (p := 48) rfl ?_); refine store_event (t := 3) (p := 48) (v := ?vo_lg24) (w1 := (wv15.setCell ⟨gb234, 3, none⟩ (.int .i64 0))) ?hg ?ho ?hn ?hr ?_; (case ho => rfl); (case hg => rfl); (case hn => rfl); (case hr => first | (go_simp; done) | (go_simp; rfl)); intro wv16 hw; have hk2 := (show Kept wv15 wv16 (fun k_ => k_ = gb234) from by rw [hw]; exact (show Kept wv15 (wv15.setCell ⟨gb234, 3, none⟩ (.int .i64 0)) (fun k_ => k_ = gb234) from by repeat (first | (with_reducible first | exact Kept.refl _ _ | apply Kept.alloc | apply Kept.drewN | apply Kept.drew) | refine Kept.setCell ?_ (.inl (by first | exact rfl | exact .inl rfl | exact .inr rfl | exact .inr (.inl rfl) | exact .inr (.inr rfl))) _ | exact Kept.refl _ _))); replace HOq2_ := Aside0.mk (Kd.R_kept HOq2_.out hk2 (fun k_ hk_ hs_ => by have i_ := HIq2_.out k_ hk_; have hs2_ : k_ = gb234 := hs_; have g0_ := HG234.out; have z_ := HLA.out; omega)); replace HOq6_ := Aside0.mk (Kd.R_kept HOq6_.out hk2 (fun k_ hk_ hs_ => by have i_ := HIq6_.out k_ hk_; have hs2_ : k_ = gb234 := hs_; have g0_ := HG234.out; have z_ := HLA.out; omega)); replace BK221 := Aside0.mk (blk_kept BK221.out hk2 (fun hs_ => by have hs2_ : gb221 = gb234 := hs_; have g_ := HG221.out; have g0_ := HG234.out; have z_ := HLA.out; omega)); replace BK222 := Aside0.mk (blk_kept BK222.out hk2 (fun hs_ => by have hs2_ : gb222 = gb234 := hs_; have g_ := HG222.out; have g0_ := HG234.out; have z_ := HLA.out; omega)); replace BK223 := Aside0.mk (blk_kept BK223.out hk2 (fun hs_ => by have hs2_ : gb223 = gb234 := hs_; have g_ := HG223.out; have g0_ := HG234.out; have z_ := HLA.out; omega)); replace BK233 := Aside0.mk (blk_kept BK233.out hk2 (fun hs_ => by have hs2_ : gb233 = gb234 := hs_; have g_ := HG233.out; have g0_ := HG234.out; have z_ := HLA.out; omega)); replace BK234 := Aside0.mk ((show wv16.heap[gb234]? = some (Obj.cells #[.int .i64 a1_0, .int .i64 a1_1, .int .i64 (wrap64 (a0_2 + 1)), .int .i64 0, .int .i64 a0_4] 28 (0, 0)) from by rw [hw]; exact (show _ = some (Obj.cells #[.int .i64 a1_0, .int .i64 a1_1, .int .i64 (wrap64 (a0_2 + 1)), .int .i64 0, .int .i64 a0_4] 28 (0, 0)) from by (with_reducible repeat (first | refine blk_drewN ?_ _ | refine blk_drew ?_ | refine blk_alloc ?_ _)); refine blk_put (cs := #[.int .i64 a1_0, .int .i64 a1_1, .int .i64 (wrap64 (a0_2 + 1)), .int .i64 a0_3, .int .i64 a0_4]) ?_ 3 _ rfl; (with_reducible repeat (first | refine blk_drewN ?_ _ | refine blk_drew ?_ | refine blk_alloc ?_ _)); exact BK234.out))); replace HB := Aside0.mk ((show Below w.heap.size w wv16 from by rw [hw]; exact by repeat (first | (with_reducible first | exact HB.out | apply below_alloc | apply pw_below_drewN | apply below_drew1 | refine below_set ?_ GE234.out) | exact HB.out))); replace HLA := Aside0.mk (And.intro HLA.out (hk2.1 : wv15.heap.size ≤ wv16.heap.size)); clear hw hk2; obtain ⟨hcz13_0, hcz13_1, hcz13_2, hcz13_3, hcz13_4, hcz13_f0, hcz13_f1, hcz13_f2, hcz13_f3, hcz13_f4⟩ := lk_c5 BK234.out; obtain ⟨hcz14_0, hcz14_1, hcz14_2, hcz14_3, hcz14_4, hcz14_5, hcz14_6, hcz14_f0, hcz14_f1, hcz14_f2, hcz14_f3, hcz14_f4, hcz14_f5, hcz14_f6⟩ := lk_c7 BK233.out; have hnb15_ : gb234 ≠ gb233 := (by have g1_ := HG234.out; have g2_ := HG233.out; have z_ := HLA.out; omega); have hnb16_ : gb233 ≠ gb234 := (by have g1_ := HG233.out; have g2_ := HG234.out; have z_ := HLA.out; omega)) | ((with_reducible refine gate_store (t := 28) (p := 50) rfl ?_); refine store_event (t := 28) (p := 50) (v := ?vo_lg25) (w1 := (((((wv16.setCell ⟨gb233, 0, none⟩ (.int .i64 a1_0)).setCell ⟨gb233, 1, none⟩ (.int .i64 a1_1)).setCell ⟨gb233, 2, none⟩ (.int .i64 (wrap64 (a0_2 + 1)))).setCell ⟨gb233, 3, none⟩ (.int .i64 0)).setCell ⟨gb233, 4, none⟩ (.int .i64 a0_4))) ?hg ?ho ?hn ?hr ?_; (case ho => rfl); (case hg => rfl); (case hn => rfl); (case hr => first | (go_simp; done) | (go_simp; rfl)); intro wv17 hw; have hk2 := (show Kept wv16 wv17 (fun k_ => k_ = gb233) from by rw [hw]; exact (show Kept wv16 (((((wv16.setCell ⟨gb233, 0, none⟩ (.int .i64 a1_0)).setCell ⟨gb233, 1, none⟩ (.int .i64 a1_1)).setCell ⟨gb233, 2, none⟩ (.int .i64 (wrap64 (a0_2 + 1)))).setCell ⟨gb233, 3, none⟩ (.int .i64 0)).setCell ⟨gb233, 4, none⟩ (.int .i64 a0_4)) (fun k_ => k_ = gb233) from by repeat (first | (with_reducible first | exact Kept.refl _ _ | apply Kept.alloc | apply Kept.drewN | apply Kept.drew) | refine Kept.setCell ?_ (.inl (by first | exact rfl | exact .inl rfl | exact .inr rfl | exact .inr (.inl rfl) | exact .inr (.inr rfl))) _ | exact Kept.refl _ _))); replace HOq2_ := Aside0.mk (Kd.R_kept HOq2_.out hk2 (fun k_ hk_ hs_ => by have i_ := HIq2_.out k_ hk_; have hs2_ : k_ = gb233 := hs_; have g0_ := HG233.out; have z_ := HLA.out; omega)); replace HOq6_ := Aside0.mk (Kd.R_kept HOq6_.out hk2 (fun k_ hk_ hs_ => by have i_ := HIq6_.out k_ hk_; have hs2_ : k_ = gb233 := hs_; have g0_ := HG233.out; have z_ := HLA.out; omega)); replace BK221 := Aside0.mk (blk_kept BK221.out hk2 (fun hs_ => by have hs2_ : gb221 = gb233 := hs_; have g_ := HG221.out; have g0_ := HG233.out; have z_ := HLA.out; omega)); replace BK222 := Aside0.mk (blk_kept BK222.out hk2 (fun hs_ => by have hs2_ : gb222 = gb233 := hs_; have g_ := HG222.out; have g0_ := HG233.out; have z_ := HLA.out; omega)); replace BK223 := Aside0.mk (blk_kept BK223.out hk2 (fun hs_ => by have hs2_ : gb223 = gb233 := hs_; have g_ := HG223.out; have g0_ := HG233.out; have z_ := HLA.out; omega)); replace BK233 := Aside0.mk ((show wv17.heap[gb233]? = some (Obj.cells #[.int .i64 a1_0, .int .i64 a1_1, .int .i64 (wrap64 (a0_2 + 1)), .int .i64 0, .int .i64 a0_4, .slice Aq2_ t229.length cq2_, .int .i64 t232] 31 (0, 0)) from by rw [hw]; exact (show _ = some (Obj.cells #[.int .i64 a1_0, .int .i64 a1_1, .int .i64 (wrap64 (a0_2 + 1)), .int .i64 0, .int .i64 a0_4, .slice Aq2_ t229.length cq2_, .int .i64 t232] 31 (0, 0)) from by (with_reducible repeat (first | refine blk_drewN ?_ _ | refine blk_drew ?_ | refine blk_alloc ?_ _)); refine blk_put (cs := #[.int .i64 a1_0, .int .i64 a1_1, .int .i64 (wrap64 (a0_2 + 1)), .int .i64 0, .int .i64 t228, .slice Aq2_ t229.length cq2_, .int .i64 t232]) ?_ 4 _ rfl; (with_reducible repeat (first | refine blk_drewN ?_ _ | refine blk_drew ?_ | refine blk_alloc ?_ _)); refine blk_put (cs := #[.int .i64 a1_0, .int .i64 a1_1, .int .i64 (wrap64 (a0_2 + 1)), .int .i64 t227, .int .i64 t228, .slice Aq2_ t229.length cq2_, .int .i64 t232]) ?_ 3 _ rfl; (with_reducible repeat (first | refine blk_drewN ?_ _ | refine blk_drew ?_ | refine blk_alloc ?_ _)); refine blk_put (cs := #[.int .i64 a1_0, .int .i64 a1_1, .int .i64 t226, .int .i64 t227, .int .i64 t228, .slice Aq2_ t229.length cq2_, .int .i64 t232]) ?_ 2 _ rfl; (with_reducible repeat (first | refine blk_drewN ?_ _ | refine blk_drew ?_ | refine blk_alloc ?_ _)); refine blk_put (cs := #[.int .i64 a1_0, .int .i64 t225, .int .i64 t226, .int .i64 t227, .int .i64 t228, .slice Aq2_ t229.length cq2_, .int .i64 t232]) ?_ 1 _ rfl; (with_reducible repeat (first | refine blk_drewN ?_ _ | refine blk_drew ?_ | refine blk_alloc ?_ _)); refine blk_put (cs := #[.int .i64 t224, .int .i64 t225, .int .i64 t226, .int .i64 t227, .int .i64 t228, .slice Aq2_ t229.length cq2_, .int .i64 t232]) ?_ 0 _ rfl; (with_reducible repeat (first | refine blk_drewN ?_ _ | refine blk_drew ?_ | refine blk_alloc ?_ _)); exact BK233.out))); replace BK234 := Aside0.mk (blk_kept BK234.out hk2 (fun hs_ => by have hs2_ : gb234 = gb233 := hs_; have g_ := HG234.out; have g0_ := HG233.out; have z_ := HLA.out; omega)); replace HB := Aside0.mk ((show Below w.heap.size w wv17 from by rw [hw]; exact by repeat (first | (with_reducible first | exact HB.out | apply below_alloc | apply pw_below_drewN | apply below_drew1 | refine below_set ?_ GE233.out) | exact HB.out))); replace HLA := Aside0.mk (And.intro HLA.out (hk2.1 : wv16.heap.size ≤ wv17.heap.size)); clear hw hk2; obtain ⟨hcz17_0, hcz17_1, hcz17_2, hcz17_3, hcz17_4, hcz17_f0, hcz17_f1, hcz17_f2, hcz17_f3, hcz17_f4⟩ := lk_c5 BK234.out) | ((with_reducible refine gate_callee (f := 60) rfl ?_); refine goesL_ (some 52) rfl rfl Try.func60 (by kernel_rfl) rfl #[.agg #[.int .i64 a1_0, .int .i64 a1_1, .int .i64 (wrap64 (a0_2 + 1)), .int .i64 0, .int .i64 a0_4]] rfl (by (try simp only [List.map_toArray, List.map_cons, List.map_nil]); first | done | rfl | (simp only [List.length_drop, List.length_take]; rfl)) ?_; (with_reducible refine (impl_progress.calls a1_0 a1_1 (wrap64 (a0_2 + 1)) 0 a0_4 t241 _  A13.out).mono ?_); rintro e wv18 ⟨rfl, hb⟩; refine ⟨_, rfl, ?_⟩; have hkW := (Kept.refl wv17 (fun _ => False)); have hk2 := Kept.below hkW hb; replace HOq2_ := Aside0.mk (Kd.R_below HOq2_.out hb); replace HOq6_ := Aside0.mk (Kd.R_below HOq6_.out hb); replace BK221 := Aside0.mk (blk_below BK221.out hb); replace BK222 := Aside0.mk (blk_below BK222.out hb); replace BK223 := Aside0.mk (blk_below BK223.out hb); replace BK233 := Aside0.mk (blk_below BK233.out hb); replace BK234 := Aside0.mk (blk_below BK234.out hb); replace HB := Aside0.mk (below_step (by repeat (first | (with_reducible first | exact HB.out | apply below_alloc | apply pw_below_drewN | apply below_drew1) | exact HB.out)) hb); replace HLA := Aside0.mk (And.intro HLA.out (hk2.1 : wv17.heap.size ≤ wv18.heap.size)); (try clear hb); (try clear hkW); (try clear hk2); (try clear hkp); obtain ⟨hcz18_0, hcz18_1, hcz18_2, hcz18_3, hcz18_4, hcz18_5, hcz18_6, hcz18_f0, hcz18_f1, hcz18_f2, hcz18_f3, hcz18_f4, hcz18_f5, hcz18_f6⟩ := lk_c7 BK233.out) | ((with_reducible refine gate_store (t := 3) (p := 53) rfl ?_); refine store_event (t := 3) (p := 53) (v := ?vo_lg26) (w1 := (wv18.setCell ⟨gb233, 6, none⟩ (.int .i64 t241))) ?hg ?ho ?hn ?hr ?_; (case ho => rfl); (case hg => rfl); (case hn => rfl); (case hr => first | (go_simp; done) | (go_simp; rfl)); intro wv19 hw; have hk2 := (show Kept wv18 wv19 (fun k_ => k_ = gb233) from by rw [hw]; exact (show Kept wv18 (wv18.setCell ⟨gb233, 6, none⟩ (.int .i64 t241)) (fun k_ => k_ = gb233) from by repeat (first | (with_reducible first | exact Kept.refl _ _ | apply Kept.alloc | apply Kept.drewN | apply Kept.drew) | refine Kept.setCell ?_ (.inl (by first | exact rfl | exact .inl rfl | exact .inr rfl | exact .inr (.inl rfl) | exact .inr (.inr rfl))) _ | exact Kept.refl _ _))); replace HOq2_ := Aside0.mk (Kd.R_kept HOq2_.out hk2 (fun k_ hk_ hs_ => by have i_ := HIq2_.out k_ hk_; have hs2_ : k_ = gb233 := hs_; have g0_ := HG233.out; have z_ := HLA.out; omega)); replace HOq6_ := Aside0.mk (Kd.R_kept HOq6_.out hk2 (fun k_ hk_ hs_ => by have i_ := HIq6_.out k_ hk_; have hs2_ : k_ = gb233 := hs_; have g0_ := HG233.out; have z_ := HLA.out; omega)); replace BK221 := Aside0.mk (blk_kept BK221.out hk2 (fun hs_ => by have hs2_ : gb221 = gb233 := hs_; have g_ := HG221.out; have g0_ := HG233.out; have z_ := HLA.out; omega)); replace BK222 := Aside0.mk (blk_kept BK222.out hk2 (fun hs_ => by have hs2_ : gb222 = gb233 := hs_; have g_ := HG222.out; have g0_ := HG233.out; have z_ := HLA.out; omega)); replace BK223 := Aside0.mk (blk_kept BK223.out hk2 (fun hs_ => by have hs2_ : gb223 = gb233 := hs_; have g_ := HG223.out; have g0_ := HG233.out; have z_ := HLA.out; omega)); replace BK233 := Aside0.mk ((show wv19.heap[gb233]? = some (Obj.cells #[.int .i64 a1_0, .int .i64 a1_1, .int .i64 (wrap64 (a0_2 + 1)), .int .i64 0, .int .i64 a0_4, .slice Aq2_ t229.length cq2_, .int .i64 t241] 31 (0, 0)) from by rw [hw]; exact (show _ = some (Obj.cells #[.int .i64 a1_0, .int .i64 a1_1, .int .i64 (wrap64 (a0_2 + 1)), .int .i64 0, .int .i64 a0_4, .slice Aq2_ t229.length cq2_, .int .i64 t241] 31 (0, 0)) from by (with_reducible repeat (first | refine blk_drewN ?_ _ | refine blk_drew ?_ | refine blk_alloc ?_ _)); refine blk_put (cs := #[.int .i64 a1_0, .int .i64 a1_1, .int .i64 (wrap64 (a0_2 + 1)), .int .i64 0, .int .i64 a0_4, .slice Aq2_ t229.length cq2_, .int .i64 t232]) ?_ 6 _ rfl; (with_reducible repeat (first | refine blk_drewN ?_ _ | refine blk_drew ?_ | refine blk_alloc ?_ _)); exact BK233.out))); replace BK234 := Aside0.mk (blk_kept BK234.out hk2 (fun hs_ => by have hs2_ : gb234 = gb233 := hs_; have g_ := HG234.out; have g0_ := HG233.out; have z_ := HLA.out; omega)); replace HB := Aside0.mk ((show Below w.heap.size w wv19 from by rw [hw]; exact by repeat (first | (with_reducible first | exact HB.out | apply below_alloc | apply pw_below_drewN | apply below_drew1 | refine below_set ?_ GE233.out) | exact HB.out))); replace HLA := Aside0.mk (And.intro HLA.out (hk2.1 : wv18.heap.size ≤ wv19.heap.size)); clear hw hk2; obtain ⟨hcz19_0, hcz19_1, hcz19_2, hcz19_3, hcz19_4, hcz19_5, hcz19_6, hcz19_f0, hcz19_f1, hcz19_f2, hcz19_f3, hcz19_f4, hcz19_f5, hcz19_f6⟩ := lk_c7 BK233.out; obtain ⟨hcz20_0, hcz20_1, hcz20_2, hcz20_3, hcz20_4, hcz20_5, hcz20_6, hcz20_f0, hcz20_f1, hcz20_f2, hcz20_f3, hcz20_f4, hcz20_f5, hcz20_f6⟩ := lk_c7 BK223.out; have hnb21_ : gb233 ≠ gb223 := (by have g1_ := HG233.out; have g2_ := HG223.out; have z_ := HLA.out; omega); have hnb22_ : gb223 ≠ gb233 := (by have g1_ := HG223.out; have g2_ := HG233.out; have z_ := HLA.out; omega)) | ((with_reducible refine gate_store (t := 31) (p := 4) rfl ?_); refine store_event (t := 31) (p := 4) (v := ?vo_lg27) (w1 := (((((((wv19.setCell ⟨gb223, 0, none⟩ (.int .i64 a1_0)).setCell ⟨gb223, 1, none⟩ (.int .i64 a1_1)).setCell ⟨gb223, 2, none⟩ (.int .i64 (wrap64 (a0_2 + 1)))).setCell ⟨gb223, 3, none⟩ (.int .i64 0)).setCell ⟨gb223, 4, none⟩ (.int .i64 a0_4)).setCell ⟨gb223, 5, none⟩ (.slice Aq2_ t229.length cq2_)).setCell ⟨gb223, 6, none⟩ (.int .i64 t241))) ?hg ?ho ?hn ?hr ?_; (case ho => rfl); (case hg => rfl); (case hn => rfl); (case hr => first | (go_simp; done) | (go_simp; rfl)); intro wv20 hw; have hk2 := (show Kept wv19 wv20 (fun k_ => k_ = gb223) from by rw [hw]; exact (show Kept wv19 (((((((wv19.setCell ⟨gb223, 0, none⟩ (.int .i64 a1_0)).setCell ⟨gb223, 1, none⟩ (.int .i64 a1_1)).setCell ⟨gb223, 2, none⟩ (.int .i64 (wrap64 (a0_2 + 1)))).setCell ⟨gb223, 3, none⟩ (.int .i64 0)).setCell ⟨gb223, 4, none⟩ (.int .i64 a0_4)).setCell ⟨gb223, 5, none⟩ (.slice Aq2_ t229.length cq2_)).setCell ⟨gb223, 6, none⟩ (.int .i64 t241)) (fun k_ => k_ = gb223) from by repeat (first | (with_reducible first | exact Kept.refl _ _ | apply Kept.alloc | apply Kept.drewN | apply Kept.drew) | refine Kept.setCell ?_ (.inl (by first | exact rfl | exact .inl rfl | exact .inr rfl | exact .inr (.inl rfl) | exact .inr (.inr rfl))) _ | exact Kept.refl _ _))); replace HOq2_ := Aside0.mk (Kd.R_kept HOq2_.out hk2 (fun k_ hk_ hs_ => by have i_ := HIq2_.out k_ hk_; have hs2_ : k_ = gb223 := hs_; have g0_ := HG223.out; have z_ := HLA.out; omega)); replace HOq6_ := Aside0.mk (Kd.R_kept HOq6_.out hk2 (fun k_ hk_ hs_ => by have i_ := HIq6_.out k_ hk_; have hs2_ : k_ = gb223 := hs_; have g0_ := HG223.out; have z_ := HLA.out; omega)); replace BK221 := Aside0.mk (blk_kept BK221.out hk2 (fun hs_ => by have hs2_ : gb221 = gb223 := hs_; have g_ := HG221.out; have g0_ := HG223.out; have z_ := HLA.out; omega)); replace BK222 := Aside0.mk (blk_kept BK222.out hk2 (fun hs_ => by have hs2_ : gb222 = gb223 := hs_; have g_ := HG222.out; have g0_ := HG223.out; have z_ := HLA.out; omega)); replace BK223 := Aside0.mk ((show wv20.heap[gb223]? = some (Obj.cells #[.int .i64 a1_0, .int .i64 a1_1, .int .i64 (wrap64 (a0_2 + 1)), .int .i64 0, .int .i64 a0_4, .slice Aq2_ t229.length cq2_, .int .i64 t241] 31 (0, 0)) from by rw [hw]; exact (show _ = some (Obj.cells #[.int .i64 a1_0, .int .i64 a1_1, .int .i64 (wrap64 (a0_2 + 1)), .int .i64 0, .int .i64 a0_4, .slice Aq2_ t229.length cq2_, .int .i64 t241] 31 (0, 0)) from by (with_reducible repeat (first | refine blk_drewN ?_ _ | refine blk_drew ?_ | refine blk_alloc ?_ _)); refine blk_put (cs := #[.int .i64 a1_0, .int .i64 a1_1, .int .i64 (wrap64 (a0_2 + 1)), .int .i64 0, .int .i64 a0_4, .slice Aq2_ t229.length cq2_, .int .i64 0]) ?_ 6 _ rfl; (with_reducible repeat (first | refine blk_drewN ?_ _ | refine blk_drew ?_ | refine blk_alloc ?_ _)); refine blk_put (cs := #[.int .i64 a1_0, .int .i64 a1_1, .int .i64 (wrap64 (a0_2 + 1)), .int .i64 0, .int .i64 a0_4, .slice none 0 0, .int .i64 0]) ?_ 5 _ rfl; (with_reducible repeat (first | refine blk_drewN ?_ _ | refine blk_drew ?_ | refine blk_alloc ?_ _)); refine blk_put (cs := #[.int .i64 a1_0, .int .i64 a1_1, .int .i64 (wrap64 (a0_2 + 1)), .int .i64 0, .int .i64 0, .slice none 0 0, .int .i64 0]) ?_ 4 _ rfl; (with_reducible repeat (first | refine blk_drewN ?_ _ | refine blk_drew ?_ | refine blk_alloc ?_ _)); refine blk_put (cs := #[.int .i64 a1_0, .int .i64 a1_1, .int .i64 (wrap64 (a0_2 + 1)), .int .i64 0, .int .i64 0, .slice none 0 0, .int .i64 0]) ?_ 3 _ rfl; (with_reducible repeat (first | refine blk_drewN ?_ _ | refine blk_drew ?_ | refine blk_alloc ?_ _)); refine blk_put (cs := #[.int .i64 a1_0, .int .i64 a1_1, .int .i64 0, .int .i64 0, .int .i64 0, .slice none 0 0, .int .i64 0]) ?_ 2 _ rfl; (with_reducible repeat (first | refine blk_drewN ?_ _ | refine blk_drew ?_ | refine blk_alloc ?_ _)); refine blk_put (cs := #[.int .i64 a1_0, .int .i64 0, .int .i64 0, .int .i64 0, .int .i64 0, .slice none 0 0, .int .i64 0]) ?_ 1 _ rfl; (with_reducible repeat (first | refine blk_drewN ?_ _ | refine blk_drew ?_ | refine blk_alloc ?_ _)); refine blk_put (cs := #[.int .i64 0, .int .i64 0, .int .i64 0, .int .i64 0, .int .i64 0, .slice none 0 0, .int .i64 0]) ?_ 0 _ rfl; (with_reducible repeat (first | refine blk_drewN ?_ _ | refine blk_drew ?_ | refine blk_alloc ?_ _)); exact BK223.out))); replace BK233 := Aside0.mk (blk_kept BK233.out hk2 (fun hs_ => by have hs2_ : gb233 = gb223 := hs_; have g_ := HG233.out; have g0_ := HG223.out; have z_ := HLA.out; omega)); replace BK234 := Aside0.mk (blk_kept BK234.out hk2 (fun hs_ => by have hs2_ : gb234 = gb223 := hs_; have g_ := HG234.out; have g0_ := HG223.out; have z_ := HLA.out; omega)); replace HB := Aside0.mk ((show Below w.heap.size w wv20 from by rw [hw]; exact by repeat (first | (with_reducible first | exact HB.out | apply below_alloc | apply pw_below_drewN | apply below_drew1 | refine below_set ?_ GE223.out) | exact HB.out))); replace HLA := Aside0.mk (And.intro HLA.out (hk2.1 : wv19.heap.size ≤ wv20.heap.size)); clear hw hk2))
  refine bodyPost_ret (results_ct rfl _ _ gb223 31 #[.int .i64 a1_0, .int .i64 a1_1, .int .i64 (wrap64 (a0_2 + 1)), .int .i64 0, .int .i64 a0_4, .slice Aq2_ t229.length cq2_, .int .i64 t241] (0, 0) _ rfl (BK223.out) Try.underlying31 rfl (by kernel_rfl)) rfl ?_
  exact ⟨_, by first | rfl | (simp [errW_none, errW_some] <;> rfl) | (simp [*] <;> rfl), Kd.R_mono HOq2_.out (fun _ _ => trivial), by repeat (first | (with_reducible first | exact HB.out | apply below_alloc | apply pw_below_drewN | apply below_drew1) | exact HB.out)⟩

end Go.Proofs.Ytjngmadmdkkcmaa.PFnExactResetGuesses
