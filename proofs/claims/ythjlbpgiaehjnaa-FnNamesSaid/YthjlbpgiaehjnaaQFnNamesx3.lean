-- written by this session's program (wip/tools/myprint.py)
import Derived.Test.YthjlbpgiaehjnaaQFnNamesx0
import Derived.Test.YthjlbpgiaehjnaaQFnNamesx1
-- squeezed
namespace Go.Proofs.Ythjlbpgiaehjnaa.QFnNames
open Go.RowKit Go.Proofs.YthjlbpgiaehjnaaW.PrintWords Go.Proofs.YthjlbpgiaehjnaaW.PrintLast Go.Proofs.YthjlbpgiaehjnaaW.PrintMore
attribute [local go_sem] max2_int min2_int max_two min_two max_three min_three max_four min_four   -- for this text's walks alone
set_option linter.unusedVariables false
set_option linter.unusedSimpArgs false
set_option maxHeartbeats 8000000
set_option maxRecDepth 100000
def spec_l2Bent.f (k : Nat) (s0_0 : List Int) (s0_1 : Int) : Option (List Int × Int) := (spec_l2Draw.f k s0_0 s0_1).bind fun bt214 => ((spec_l1Next.f s0_0 bt214.2 12).bind fun bt218 => (if bt218.1 = 0 then ((spec_l1Pick.f s0_0 bt218.2 (([0, 10, 99, 1100] : List Int))).bind fun bt223 => (if bt214.1.length < 17592186044416 then (some ((bt214.1 ++ [bt223.1]), bt223.2)) else (none))) else (if bt218.1 = 1 then (if 13 ≤ 35184372088832 then (some ((List.replicate 13 0), bt218.2)) else (none)) else (some (bt214.1, bt218.2)))))
theorem spec_l2Bent.mono : ∀ a0 a1 k, LeO (spec_l2Bent.f k a0 a1) (spec_l2Bent.f (k + 1) a0 a1) := by
 intro a0 a1 k
 unfold spec_l2Bent.f
 repeat' with_reducible first | exact spec_l2Draw.mono _ _ _ | exact LeO.refl _ | exact LeO.none _ | refine LeO.ite ?_ ?_ | refine LeO.bind ?_ (fun _ => ?_)
theorem spec_l2Bent.calls (k : Nat) (g : Nat) (s0_0 : List Int) (s0_1 : Int) (r1 : List Int) (r2 : Int) (w0 w : World) (hI : IsS129 w0 w g s0_0 s0_1) (hB : Below w0.heap.size w0 w) (h : spec_l2Bent.f k s0_0 s0_1 = some (r1, r2)) :
 Calls Try.prog 100 #[.pointer (some ⟨g, 0, none⟩)] w fun e w' => ∃ v0_ : Value, e = .returned (v0_) ∧ Kd.R (Kd.int .i64) 2 w' w.heap.size (fun _ => True) v0_ r1 ∧ IsS129 w0 w' g s0_0 r2 ∧ Below w0.heap.size w0 w' ∧ KeepBut w w' g none := by
 have HI0 := am hI
 have HK := am (KeepBut.refl w g none)
 have HL := am hB.size
 clear hI
 have HW0 := am hB.size
 have HB := am hB; clear hB
 have H : ((spec_l2Draw.f k s0_0 s0_1).bind fun bt214 => ((spec_l1Next.f s0_0 bt214.2 12).bind fun bt218 => (if bt218.1 = 0 then ((spec_l1Pick.f s0_0 bt218.2 (([0, 10, 99, 1100] : List Int))).bind fun bt223 => (if bt214.1.length < 17592186044416 then (some ((bt214.1 ++ [bt223.1]), bt223.2)) else (none))) else (if bt218.1 = 1 then (if 13 ≤ 35184372088832 then (some ((List.replicate 13 0), bt218.2)) else (none)) else (some (bt214.1, bt218.2)))))) = some (r1, r2) := h
 clear h
 obtain ⟨⟨t214, t217⟩, A20, H⟩ := bO H
 replace H : ((spec_l1Next.f s0_0 t217 12).bind fun bt218 => (if bt218.1 = 0 then ((spec_l1Pick.f s0_0 bt218.2 (([0, 10, 99, 1100] : List Int))).bind fun bt223 => (if t214.length < 17592186044416 then (some ((t214 ++ [bt223.1]), bt223.2)) else (none))) else (if bt218.1 = 1 then (if 13 ≤ 35184372088832 then (some ((List.replicate 13 0), bt218.2)) else (none)) else (some (t214, bt218.2))))) = some (r1, r2) := H
 have A2 := am A20; clear A20
 obtain ⟨⟨t218, t219⟩, A30, H⟩ := bO H
 replace H : (if t218 = 0 then ((spec_l1Pick.f s0_0 t219 (([0, 10, 99, 1100] : List Int))).bind fun bt223 => (if t214.length < 17592186044416 then (some ((t214 ++ [bt223.1]), bt223.2)) else (none))) else (if t218 = 1 then (if 13 ≤ 35184372088832 then (some ((List.replicate 13 0), t219)) else (none)) else (some (t214, t219)))) = some (r1, r2) := H
 have A3 := am A30; clear A30
 by_cases c4 : t218 = 0
 · rw [if_pos c4] at H
   have c4b0 : (t218 == 0) = true := beq_iff_eq.mpr c4
   have c4b1 : (t218 != 0) = false := bne_eq_false_iff_eq.mpr c4
   clear c4
   obtain ⟨y220, hy220⟩ : ∃ y_ : List Int, y_ = (([0, 10, 99, 1100] : List Int)) := ⟨_, rfl⟩
   replace H : ((spec_l1Pick.f s0_0 t219 y220).bind fun bt223 => (if t214.length < 17592186044416 then (some ((t214 ++ [bt223.1]), bt223.2)) else (none))) = some (r1, r2) := by first | (rw [hy220]; with_reducible exact H) | (have H2_ := (Option.bind_some _ _).symm.trans H; rw [hy220]; with_reducible exact H2_) | (have H2_ := (Option.bind_some _ _).symm.trans H; with_reducible exact H2_) | with_reducible exact H | (rw [hy220]; exact H) | exact H
   have Ny220 := am hy220; clear hy220
   obtain ⟨⟨t223, t224⟩, A50, H⟩ := bO H
   replace H : (if t214.length < 17592186044416 then (some ((t214 ++ [t223]), t224)) else (none)) = some (r1, r2) := H
   have A5 := am A50; clear A50
   by_cases c6 : t214.length < 17592186044416
   · rw [if_pos c6] at H
     have LMc6 := am c6; clear c6
     obtain ⟨y225, hy225⟩ : ∃ y_ : List Int, y_ = (t214 ++ [t223]) := ⟨_, rfl⟩
     replace H : (some (y225, t224)) = some (r1, r2) := by first | (rw [hy225]; with_reducible exact H) | (have H2_ := (Option.bind_some _ _).symm.trans H; rw [hy225]; with_reducible exact H2_) | (have H2_ := (Option.bind_some _ _).symm.trans H; with_reducible exact H2_) | with_reducible exact H | (rw [hy225]; exact H) | exact H
     have Ny225 := am hy225; clear hy225
     simp only [Option.some.injEq, Prod.mk.injEq] at H
     obtain ⟨rfl, rfl⟩ := H
     go_enter Try.func100, Try.ntmps100
     go_wp2_with (first | ((with_reducible refine gC (f := 128) rfl ?_); refine goesL_ (some 5) rfl rfl Try.func128 (by kernel_rfl) rfl #[.pointer (some ⟨g, 0, none⟩)] rfl pA ?_; (with_reducible refine (spec_l2Draw.calls k g s0_0 s0_1 t214 t217 w0 _ ?side1 ?side2 A2.out).mono ?_); (case side1 => exact zd7); (case side2 => exact zd6); rintro e w7 ⟨v215, rfl, ho0, hi, hb, hk⟩; refine ⟨_, rfl, ?_⟩; have n_ := t4 (rL ho0 (keep_size (w := w) (g := g) (row := none) zd4)) (KeepBut.trans zd4 hk (.inl rfl)) (hb) (hi); clear HK HB HI0; obtain ⟨HO216, HK, HB, HI0⟩ := n_; (try clear hb); (try clear hk); (try clear hi); (try clear ho0)) | ((with_reducible refine gC (f := 77) rfl ?_); refine goesL_ (some 7) rfl rfl Try.func77 (by kernel_rfl) rfl #[.pointer (some ⟨g, 0, none⟩), .int .i64 12] rfl pA ?_; (with_reducible refine (spec_l1Next.calls g s0_0 t217 12 t218 t219 w0 _ ?side1 ?side2 A3.out).mono ?_); (case side1 => exact zd7); (case side2 => exact zd6); rintro e w8 ⟨rfl, hi, hb, hk⟩; refine ⟨_, rfl, ?_⟩; have n_ := t4 (Kd.R_mono (Kd.R_keep (IsS129.apart (show IsS129 w0 _ g s0_0 t217 from by repeat (first | (with_reducible first | exact HI0.out | apply IsS129.alloc | apply IsS129.drewN | apply IsS129.drew | apply IsS129.set_1) | exact HI0.out)) (pR HO216) (by decide)) hk (fun _ h => h.2)) (fun _ h => h.1)) (KeepBut.trans zd4 hk (.inl rfl)) (hb) (hi); clear HO216 HK HB HI0; obtain ⟨HO216, HK, HB, HI0⟩ := n_; (try clear hb); (try clear hk); (try clear hi)) | ((with_reducible refine gate_dst (N := 12) rfl ?_); refine Kd.R_lit (Kd.int .i64) _ 2 ?hg (N := 12) ?hd (xs := ([0, 10, 99, 1100] : List Int)) (inner := [.int .i64 0, .int .i64 10, .int .i64 99, .int .i64 1100]) (ok := fun _ => True) (okp := fun _ => True) ?hr ?hp (fun _ hk => hk) trivial (Below.refl _ _) (Nat.le_refl _) (by simp) ?_; (case hd => rfl); (case hg => rfl); (case hr => first | (go_simp; done) | (go_simp; rfl)); (case hp => exact (Reps.one (show Kd.M (Kd.int .i64) _ _ _ 0 [.int .i64 0] from rfl) (Reps.one (show Kd.M (Kd.int .i64) _ _ _ 10 [.int .i64 10] from rfl) (Reps.one (show Kd.M (Kd.int .i64) _ _ _ 99 [.int .i64 99] from rfl) (Reps.one (show Kd.M (Kd.int .i64) _ _ _ 1100 [.int .i64 1100] from rfl) (Reps.none _ _)))))); intro v221 w9 ho10 hb hg_ hnew_; clear hg_ hnew_; (first | rw [← Ny220.out] at ho10 | (simp only [Int.reduceToNat] at ho10; rw [← Ny220.out] at ho10)); have n_ := t5 (rE (pR HO216) (rB ho10) hb) (rL (rW ho10 (Kd.R_lt (pR HO216))) (keep_size (w := w) (g := g) (row := none) zd4)) (IsS129.below zd7 hb) (KeepBut.trans zd4 (KeepBut.of_below hb g none) (.inl rfl)) (bz_ zd6 hb); clear HO216 HI0 HK HB; obtain ⟨HO216, HO222, HI0, HK, HB⟩ := n_; clear hb ho10; obtain ⟨Ao11, co11, eo11⟩ := rS HO222.out; subst eo11) | ((with_reducible refine gC (f := 78) rfl ?_); refine goesL_ (some 13) rfl rfl Try.func78 (by kernel_rfl) rfl #[.pointer (some ⟨g, 0, none⟩), .slice Ao11 y220.length co11] rfl pA ?_; (with_reducible refine (spec_l1Pick.calls g s0_0 t219 _ _ y220 t223 t224 w0 _ ?side1 ?side2 ?side3 ?side4 ?side5 A5.out).mono ?_); (case side1 => exact zd7); (case side2 => exact zd6); (case side3 => exact pC (rr HO222.out).2.2); (case side4 => exact (rr HO222.out).2.1); (case side5 => exact far_slice (IsS129.own_ne HI0.out HO222.out (by decide))); rintro e w12 ⟨rfl, hi, hb, hk⟩; refine ⟨_, rfl, ?_⟩; have n_ := t5 (Kd.R_mono (Kd.R_keep (IsS129.apart (show IsS129 w0 _ g s0_0 t219 from by repeat (first | (with_reducible first | exact HI0.out | apply IsS129.alloc | apply IsS129.drewN | apply IsS129.drew | apply IsS129.set_1) | exact HI0.out)) (pR HO216) (by decide)) hk (fun _ h => h.2)) (fun _ h => h.1)) (Kd.R_mono (Kd.R_keep (IsS129.apart (show IsS129 w0 _ g s0_0 t219 from by repeat (first | (with_reducible first | exact HI0.out | apply IsS129.alloc | apply IsS129.drewN | apply IsS129.drew | apply IsS129.set_1) | exact HI0.out)) (pR HO222) (by decide)) hk (fun _ h => h.2)) (fun _ h => h.1)) (KeepBut.trans zd4 hk (.inl rfl)) (hb) (hi); clear HO216 HO222 HK HB HI0; obtain ⟨HO216, HO222, HK, HB, HI0⟩ := n_; (try clear hb); (try clear hk); (try clear hi)) | ((with_reducible refine gB (b := .append) (xs := #[.tmp 10, .tmp 14]) rfl ?_); at_builtin; refine Kd.R_append (Kd.int .i64) w.heap.size rfl (.tmp 10) (.tmp 14) 32 2 (.int .i64 0) 8 rfl Try.underlying32 info2 rfl (by decide) (by omega) v215 t214 t223 [.int .i64 t223] (fun k_ => some k_ ≠ (.slice Ao11 y220.length co11 : Value).ownBlock) (fun _ => False) rfl rfl ?aP (fun _ hk => hk.elim) ?aF ?aO (Below.refl _ _) ?aS ?aL ?_; (case aP => exact rfl); (case aF => exact (fun k_ hk => Kd.fresh' (Kd.R_lt (pR HO222)) k_ hk)); (case aO => exact (pT (Kd.R_mono HO216.out (fun _ hk => hk.2)))); (case aS => exact (keep_size (w := w) (g := g) (row := none) zd4)); (case aL => have := LMc6.out; omega); intro v226 w13 ho hb hg hat; rw [← Ny225.out] at ho; have n_ := t5 (IsS129.grown zd7 hg (IsS129.own_ne HI0.out HO216.out (by decide))) (Kd.R_after (ok := (fun _ => True)) (pR HO222) hg hat) (below_weaken zd6 HL.out hb) (KeepBut.trans zd4 (KeepBut.of_grown hg g) (Kd.R_base2 HO216.out)) (ho); clear HI0 HO222 HB HK HO216; obtain ⟨HI0, HO222, HB, HK, HO227⟩ := n_; clear ho hb hg hat))
     go_ret
     exact ⟨_, pE, (pT (Kd.R_mono HO227.out (fun _ hk => trivial))), zd7, zd6, zd4⟩
   · rw [if_neg c6] at H
     exact absurd H (by simp)
 · rw [if_neg c4] at H
   have c4b0 : (t218 == 0) = false := beq_eq_false_iff_ne.mpr c4
   have c4b1 : (t218 != 0) = true := bne_iff_ne.mpr c4
   by_cases c14 : t218 = 1
   · rw [if_pos c14] at H
     have c14b0 : (t218 == 1) = true := beq_iff_eq.mpr c14
     have c14b1 : (t218 != 1) = false := bne_eq_false_iff_eq.mpr c14
     clear c14
     by_cases c15 : 13 ≤ 35184372088832
     · rw [if_pos c15] at H
       have c15b0 := eq_true c15
       have c15b1 : decide (13 ≤ 35184372088832) = true := dt c15
       clear c15
       obtain ⟨y228, hy228⟩ : ∃ y_ : List Int, y_ = (List.replicate 13 0) := ⟨_, rfl⟩
       replace H : (some (y228, t219)) = some (r1, r2) := by first | (rw [hy228]; with_reducible exact H) | (have H2_ := (Option.bind_some _ _).symm.trans H; rw [hy228]; with_reducible exact H2_) | (have H2_ := (Option.bind_some _ _).symm.trans H; with_reducible exact H2_) | with_reducible exact H | (rw [hy228]; exact H) | exact H
       have Ny228 := am hy228; clear hy228
       simp only [Option.some.injEq, Prod.mk.injEq] at H
       obtain ⟨rfl, rfl⟩ := H
       go_enter Try.func100, Try.ntmps100
       go_wp2_with (first | ((with_reducible refine gC (f := 128) rfl ?_); refine goesL_ (some 5) rfl rfl Try.func128 (by kernel_rfl) rfl #[.pointer (some ⟨g, 0, none⟩)] rfl pA ?_; (with_reducible refine (spec_l2Draw.calls k g s0_0 s0_1 t214 t217 w0 _ ?side1 ?side2 A2.out).mono ?_); (case side1 => exact zd7); (case side2 => exact zd6); rintro e w16 ⟨v215, rfl, ho0, hi, hb, hk⟩; refine ⟨_, rfl, ?_⟩; have n_ := t4 (rL ho0 (keep_size (w := w) (g := g) (row := none) zd4)) (KeepBut.trans zd4 hk (.inl rfl)) (hb) (hi); clear HK HB HI0; obtain ⟨HO216, HK, HB, HI0⟩ := n_; (try clear hb); (try clear hk); (try clear hi); (try clear ho0)) | ((with_reducible refine gC (f := 77) rfl ?_); refine goesL_ (some 7) rfl rfl Try.func77 (by kernel_rfl) rfl #[.pointer (some ⟨g, 0, none⟩), .int .i64 12] rfl pA ?_; (with_reducible refine (spec_l1Next.calls g s0_0 t217 12 t218 t219 w0 _ ?side1 ?side2 A3.out).mono ?_); (case side1 => exact zd7); (case side2 => exact zd6); rintro e w17 ⟨rfl, hi, hb, hk⟩; refine ⟨_, rfl, ?_⟩; have n_ := t4 (Kd.R_mono (Kd.R_keep (IsS129.apart (show IsS129 w0 _ g s0_0 t217 from by repeat (first | (with_reducible first | exact HI0.out | apply IsS129.alloc | apply IsS129.drewN | apply IsS129.drew | apply IsS129.set_1) | exact HI0.out)) (pR HO216) (by decide)) hk (fun _ h => h.2)) (fun _ h => h.1)) (KeepBut.trans zd4 hk (.inl rfl)) (hb) (hi); clear HO216 HK HB HI0; obtain ⟨HO216, HK, HB, HI0⟩ := n_; (try clear hb); (try clear hk); (try clear hi)) | ((with_reducible refine gate_dst (N := 18) rfl ?_); refine Kd.R_make (Kd.int .i64) _ 2 rfl (N := 18) rfl 32 _ _ rfl 13 rfl rfl Try.underlying32 (.int .i64 0) 8 info2 rfl (by decide) (by omega) 0 (ok := fun _ => True) (okp := fun _ => True) rfl (fun _ hk => hk) trivial (by omega) (by omega) (Below.refl _ _) (Nat.le_refl _) ?_; intro v229 w18 ho19 hb hg_ hnew_; clear hg_ hnew_; (first | rw [← Ny228.out] at ho19 | (simp only [Int.reduceToNat] at ho19; rw [← Ny228.out] at ho19)); have n_ := t5 (rE (pR HO216) (rB ho19) hb) (rL (rW ho19 (Kd.R_lt (pR HO216))) (keep_size (w := w) (g := g) (row := none) zd4)) (IsS129.below zd7 hb) (KeepBut.trans zd4 (KeepBut.of_below hb g none) (.inl rfl)) (bz_ zd6 hb); clear HO216 HI0 HK HB; obtain ⟨HO216, HO230, HI0, HK, HB⟩ := n_; clear hb ho19))
       go_ret
       exact ⟨_, pE, (pT (Kd.R_mono HO230.out (fun _ hk => trivial))), zd7, zd6, zd4⟩
     · rw [if_neg c15] at H
       exact absurd H (by simp)
   · rw [if_neg c14] at H
     have c14b0 : (t218 == 1) = false := beq_eq_false_iff_ne.mpr c14
     have c14b1 : (t218 != 1) = true := bne_iff_ne.mpr c14
     simp only [Option.some.injEq, Prod.mk.injEq] at H
     obtain ⟨rfl, rfl⟩ := H
     go_enter Try.func100, Try.ntmps100
     go_wp2_with (first | ((with_reducible refine gC (f := 128) rfl ?_); refine goesL_ (some 5) rfl rfl Try.func128 (by kernel_rfl) rfl #[.pointer (some ⟨g, 0, none⟩)] rfl pA ?_; (with_reducible refine (spec_l2Draw.calls k g s0_0 s0_1 t214 t217 w0 _ ?side1 ?side2 A2.out).mono ?_); (case side1 => exact zd7); (case side2 => exact zd6); rintro e w20 ⟨v215, rfl, ho0, hi, hb, hk⟩; refine ⟨_, rfl, ?_⟩; have n_ := t4 (rL ho0 (keep_size (w := w) (g := g) (row := none) zd4)) (KeepBut.trans zd4 hk (.inl rfl)) (hb) (hi); clear HK HB HI0; obtain ⟨HO216, HK, HB, HI0⟩ := n_; (try clear hb); (try clear hk); (try clear hi); (try clear ho0)) | ((with_reducible refine gC (f := 77) rfl ?_); refine goesL_ (some 7) rfl rfl Try.func77 (by kernel_rfl) rfl #[.pointer (some ⟨g, 0, none⟩), .int .i64 12] rfl pA ?_; (with_reducible refine (spec_l1Next.calls g s0_0 t217 12 t218 t219 w0 _ ?side1 ?side2 A3.out).mono ?_); (case side1 => exact zd7); (case side2 => exact zd6); rintro e w21 ⟨rfl, hi, hb, hk⟩; refine ⟨_, rfl, ?_⟩; have n_ := t4 (Kd.R_mono (Kd.R_keep (IsS129.apart (show IsS129 w0 _ g s0_0 t217 from by repeat (first | (with_reducible first | exact HI0.out | apply IsS129.alloc | apply IsS129.drewN | apply IsS129.drew | apply IsS129.set_1) | exact HI0.out)) (pR HO216) (by decide)) hk (fun _ h => h.2)) (fun _ h => h.1)) (KeepBut.trans zd4 hk (.inl rfl)) (hb) (hi); clear HO216 HK HB HI0; obtain ⟨HO216, HK, HB, HI0⟩ := n_; (try clear hb); (try clear hk); (try clear hi)))
     go_ret
     exact ⟨_, pE, (pR HO216), zd7, zd6, zd4⟩
end Go.Proofs.Ythjlbpgiaehjnaa.QFnNames
