-- written by this session's program (wip/tools/myprint.py)
import Derived.Test.YthjlbpgiaehjnaaQFnNamesx0
import Derived.Test.YthjlbpgiaehjnaaQFnNamesx1
-- squeezed
namespace Go.Proofs.Ythjlbpgiaehjnaa.QFnNames
open Go.RowKit Go.Proofs.YthjlbpgiaehjnaaW.PrintWords Go.Proofs.YthjlbpgiaehjnaaW.PrintLast Go.Proofs.YthjlbpgiaehjnaaW.PrintMore
attribute [local go_sem] max2_int min2_int max_two min_two max_three min_three max_four min_four   -- for this text's walks alone
set_option linter.unusedVariables false
set_option linter.unusedSimpArgs false
set_option maxHeartbeats 8000000
set_option maxRecDepth 100000
mutual
def spec_l3Draw.l0 : Nat → Int → List Int → Int → Int → List (S34) → Option (Int × (List (S34)) × (List (S86)) × Int)
 | 0, _, _, _, _, _ => none
 | k + 1, x4, x1000, x1001, x185000, x185001 => if x4 > 0 then ((spec_l1Pick.f x1000 x1001 (([7, 70000, 2147483646] : List Int))).bind fun bt190 => ((spec_l1Next.f x1000 bt190.2 1000).bind fun bt192 => (if x185001.length < 3518437208883 then (spec_l3Draw.l0 k (wrap64 (x4 - 1)) x1000 bt192.2 x185000 (x185001 ++ [(⟨bt190.1, (x185001.length : Int), (([bt192.1] : List Int))⟩ : S34)])) else (none)))) else ((spec_l1Next.f x1000 x1001 3).bind fun bt200 => (spec_l3Draw.l1 k (wrap64 (1 + bt200.1)) x1000 bt200.2 x185000 x185001 ([] : List (S86))))
def spec_l3Draw.l1 : Nat → Int → List Int → Int → Int → List (S34) → List (S86) → Option (Int × (List (S34)) × (List (S86)) × Int)
 | 0, _, _, _, _, _, _ => none
 | k + 1, x5, x1000, x1001, x185000, x185001, x185002 => if x5 > 0 then ((spec_l1Pick.f x1000 x1001 (([1, 50, 70000] : List Int))).bind fun bt205 => ((spec_l2Draw.f k x1000 bt205.2).bind fun bt207 => (if x185002.length < 4398046511104 then (spec_l3Draw.l1 k (wrap64 (x5 - 1)) x1000 bt207.2 x185000 x185001 (x185002 ++ [(⟨bt205.1, bt207.1⟩ : S86)])) else (none)))) else (some (x185000, x185001, x185002, x1001))
end
def spec_l3Draw.f (k : Nat) (s0_0 : List Int) (s0_1 : Int) : Option (Int × (List (S34)) × (List (S86)) × Int) := (spec_l1Pick.f s0_0 s0_1 (([0, 5, 300, 65535] : List Int))).bind fun bt182 => ((spec_l1Next.f s0_0 bt182.2 3).bind fun bt185 => (spec_l3Draw.l0 k bt185.1 s0_0 bt185.2 bt182.1 ([] : List (S34))))
theorem spec_l3Draw.mono_l : ∀ k, (∀ y0 y1 y2 y3 y4, LeO (spec_l3Draw.l0 k y0 y1 y2 y3 y4) (spec_l3Draw.l0 (k + 1) y0 y1 y2 y3 y4)) ∧ (∀ y0 y1 y2 y3 y4 y5, LeO (spec_l3Draw.l1 k y0 y1 y2 y3 y4 y5) (spec_l3Draw.l1 (k + 1) y0 y1 y2 y3 y4 y5))
 | 0 => ⟨fun _ _ _ _ _ r h => by simp [spec_l3Draw.l0] at h, fun _ _ _ _ _ _ r h => by simp [spec_l3Draw.l1] at h⟩
 | k + 1 => by
  obtain ⟨ih0, ih1⟩ := spec_l3Draw.mono_l k
  refine ⟨?_, ?_⟩
  · intro y0 y1 y2 y3 y4
    unfold spec_l3Draw.l0
    repeat' with_reducible first | exact ih0 _ _ _ _ _ | exact ih1 _ _ _ _ _ _ | exact spec_l2Draw.mono _ _ _ | exact LeO.refl _ | exact LeO.none _ | refine LeO.ite ?_ ?_ | refine LeO.bind ?_ (fun _ => ?_)
  · intro y0 y1 y2 y3 y4 y5
    unfold spec_l3Draw.l1
    repeat' with_reducible first | exact ih0 _ _ _ _ _ | exact ih1 _ _ _ _ _ _ | exact spec_l2Draw.mono _ _ _ | exact LeO.refl _ | exact LeO.none _ | refine LeO.ite ?_ ?_ | refine LeO.bind ?_ (fun _ => ?_)
theorem spec_l3Draw.mono : ∀ a0 a1 k, LeO (spec_l3Draw.f k a0 a1) (spec_l3Draw.f (k + 1) a0 a1) := by
 intro a0 a1 k
 obtain ⟨ih0, ih1⟩ := spec_l3Draw.mono_l k
 unfold spec_l3Draw.f
 repeat' with_reducible first | exact ih0 _ _ _ _ _ | exact ih1 _ _ _ _ _ _ | exact spec_l2Draw.mono _ _ _ | exact LeO.refl _ | exact LeO.none _ | refine LeO.ite ?_ ?_ | refine LeO.bind ?_ (fun _ => ?_)
def spec_l3Draw.T5 : Bool × List (List Nat × List Nat) := (true, [([], []), ([0], [0]), ([], []), ([], []), ([2, 3], [2, 3]), ([], []), ([5], [5]), ([6], [6]), ([], []), ([8, 4], [8]), ([9], [9]), ([4, 7, 10], [4, 7, 10]), ([11], [11]), ([1, 12, 9], [1, 12]), ([0, 1, 2, 3, 4, 5, 6, 7, 8, 9, 10, 11, 12, 13], []), ([14, 13, 13, 0, 1, 2, 3, 4, 5, 6, 7, 8, 9, 10, 11, 12, 13], [13, 14])])
def spec_l3Draw.B5 : List Nat := [0, 1, 0, 0, 12, 0, 32, 96, 0, 284, 796, 2044, 4092, 8191, 16383, 32767]
theorem spec_l3Draw.tab5 : rtab .any (opsOf Try.f75 5) = spec_l3Draw.T5 := by kernel_rfl
theorem spec_l3Draw.bits5 : waitsOk spec_l3Draw.T5.2 spec_l3Draw.B5 = true := by kernel_rfl
def spec_l3Draw.T9 : Bool × List (List Nat × List Nat) := (true, [([], []), ([0], [0]), ([], []), ([], []), ([2, 3], [2, 3]), ([], []), ([5, 4], [5]), ([4, 6], [4, 6]), ([7], [7]), ([1, 8, 6], [1, 8]), ([0, 1, 2, 3, 4, 5, 6, 7, 8, 9], []), ([10, 9, 9, 0, 1, 2, 3, 4, 5, 6, 7, 8, 9], [9, 10])])
def spec_l3Draw.B9 : List Nat := [0, 1, 0, 0, 12, 0, 60, 124, 252, 511, 1023, 2047]
theorem spec_l3Draw.tab9 : rtab .any (opsOf Try.f75 9) = spec_l3Draw.T9 := by kernel_rfl
theorem spec_l3Draw.bits9 : waitsOk spec_l3Draw.T9.2 spec_l3Draw.B9 = true := by kernel_rfl
theorem spec_l3Draw.calls (k : Nat) (g : Nat) (s0_0 : List Int) (s0_1 : Int) (r1 : Int) (r2 : List (S34)) (r3 : List (S86)) (r4 : Int) (w0 w : World) (hI : IsS129 w0 w g s0_0 s0_1) (hB : Below w0.heap.size w0 w) (h : spec_l3Draw.f k s0_0 s0_1 = some (r1, r2, r3, r4)) :
 Calls Try.prog 75 #[.pointer (some ⟨g, 0, none⟩)] w fun e w' => ∃ v1_ v2_ : Value, e = .returned (.agg #[.int .i64 r1, v1_, v2_]) ∧ Kd.S k34 34 w' w.heap.size (fun _ => True) v1_ r2 ∧ Kd.S k86 86 w' w.heap.size (fun _ => True) v2_ r3 ∧ IsS129 w0 w' g s0_0 r4 ∧ Below w0.heap.size w0 w' ∧ KeepBut w w' g none := by
 have hu27 := Try.underlying27
 have hu34 := Try.underlying34
 have hu86 := Try.underlying86
 have HI0 := am hI
 have HK := am (KeepBut.refl w g none)
 have HL := am hB.size
 clear hI
 have HW0 := am hB.size
 have HB := am hB; clear hB
 have H : ((spec_l1Pick.f s0_0 s0_1 (([0, 5, 300, 65535] : List Int))).bind fun bt182 => ((spec_l1Next.f s0_0 bt182.2 3).bind fun bt185 => (spec_l3Draw.l0 k bt185.1 s0_0 bt185.2 bt182.1 ([] : List (S34))))) = some (r1, r2, r3, r4) := h
 clear h
 obtain ⟨y179, hy179⟩ : ∃ y_ : List Int, y_ = (([0, 5, 300, 65535] : List Int)) := ⟨_, rfl⟩
 replace H : ((spec_l1Pick.f s0_0 s0_1 y179).bind fun bt182 => ((spec_l1Next.f s0_0 bt182.2 3).bind fun bt185 => (spec_l3Draw.l0 k bt185.1 s0_0 bt185.2 bt182.1 ([] : List (S34))))) = some (r1, r2, r3, r4) := by first | (rw [hy179]; with_reducible exact H) | (have H2_ := (Option.bind_some _ _).symm.trans H; rw [hy179]; with_reducible exact H2_) | (have H2_ := (Option.bind_some _ _).symm.trans H; with_reducible exact H2_) | with_reducible exact H | (rw [hy179]; exact H) | exact H
 have Ny179 := am hy179; clear hy179
 obtain ⟨⟨t182, t183⟩, A20, H⟩ := bO H
 replace H : ((spec_l1Next.f s0_0 t183 3).bind fun bt185 => (spec_l3Draw.l0 k bt185.1 s0_0 bt185.2 t182 ([] : List (S34)))) = some (r1, r2, r3, r4) := H
 have A2 := am A20; clear A20
 obtain ⟨⟨t185, t186⟩, A30, H⟩ := bO H
 replace H : (spec_l3Draw.l0 k t185 s0_0 t186 t182 ([] : List (S34))) = some (r1, r2, r3, r4) := H
 have A3 := am A30; clear A30
 have H' := am H
 clear H
 go_enter Try.func75, Try.ntmps75
 go_wp2_with (first | ((with_reducible refine gate_dst (N := 2) rfl ?_); refine box_event ?hg (N := 2) ?hd (cs := #[.int .i64 0, .slice none 0 0, .slice none 0 0]) (t := 27) ?hr ?_; (case hd => rfl); (case hg => rfl); (case hr => first | (go_simp; done) | (go_simp; rfl)); intro gb178 hg w4 hbox hb; have n_ := t8 (IsS129.below zd7 hb) (KeepBut.trans zd4 (KeepBut.of_below hb g none) (.inl rfl)) (bz_ zd6 hb) (hbox) ((by rw [hg]; exact (keep_size (w := w) (g := g) (row := none) zd4) : w.heap.size ≤ gb178)) ((Nat.le_trans HW0.out (by rw [hg]; exact (keep_size (w := w) (g := g) (row := none) zd4) : w.heap.size ≤ gb178) : w0.heap.size ≤ gb178)) ((by rw [hg]; exact Nat.ne_of_lt (IsS129.lt (show IsS129 w0 _ g s0_0 s0_1 from by repeat (first | (with_reducible first | exact HI0.out | apply IsS129.alloc | apply IsS129.drewN | apply IsS129.drew | apply IsS129.set_1) | exact HI0.out))) : g ≠ gb178)) ((by rw [hg]; exact Nat.ne_of_gt (IsS129.lt (show IsS129 w0 _ g s0_0 s0_1 from by repeat (first | (with_reducible first | exact HI0.out | apply IsS129.alloc | apply IsS129.drewN | apply IsS129.drew | apply IsS129.set_1) | exact HI0.out))) : gb178 ≠ g)); clear HI0 HK HB; obtain ⟨HI0, HK, HB, BK178, GW178, GE178, NB0_178, NB178_0⟩ := n_; clear hb hbox hg) | ((with_reducible refine gate_dst (N := 7) rfl ?_); refine Kd.R_lit (Kd.int .i64) _ 2 ?hg (N := 7) ?hd (xs := ([0, 5, 300, 65535] : List Int)) (inner := [.int .i64 0, .int .i64 5, .int .i64 300, .int .i64 65535]) (ok := fun _ => True) (okp := fun _ => True) ?hr ?hp (fun _ hk => hk) trivial (Below.refl _ _) (Nat.le_refl _) (by simp) ?_; (case hd => rfl); (case hg => rfl); (case hr => first | (go_simp; done) | (go_simp; rfl)); (case hp => exact (Reps.one (show Kd.M (Kd.int .i64) _ _ _ 0 [.int .i64 0] from rfl) (Reps.one (show Kd.M (Kd.int .i64) _ _ _ 5 [.int .i64 5] from rfl) (Reps.one (show Kd.M (Kd.int .i64) _ _ _ 300 [.int .i64 300] from rfl) (Reps.one (show Kd.M (Kd.int .i64) _ _ _ 65535 [.int .i64 65535] from rfl) (Reps.none _ _)))))); intro v180 w5 ho6 hb hg_ hnew_; clear hg_ hnew_; (first | rw [← Ny179.out] at ho6 | (simp only [Int.reduceToNat] at ho6; rw [← Ny179.out] at ho6)); have n_ := t5 (rL ho6 (keep_size (w := w) (g := g) (row := none) zd23)) (IsS129.below zd46 hb) (blk_below (g := gb178) (o := .cells #[.int .i64 0, .slice none 0 0, .slice none 0 0] 27 (0, 0)) (pK BK178) hb) (KeepBut.trans zd23 (KeepBut.of_below hb g none) (.inl rfl)) (bz_ zd44 hb); clear HI0 BK178 HK HB; obtain ⟨HO181, HI0, BK178, HK, HB⟩ := n_; clear hb ho6; obtain ⟨Ao7, co7, eo7⟩ := rS HO181.out; subst eo7) | ((with_reducible refine gC (f := 78) rfl ?_); refine goesL_ (some 8) rfl rfl Try.func78 (by kernel_rfl) rfl #[.pointer (some ⟨g, 0, none⟩), .slice Ao7 y179.length co7] rfl pA ?_; (with_reducible refine (spec_l1Pick.calls g s0_0 s0_1 _ _ y179 t182 t183 w0 _ ?side1 ?side2 ?side3 ?side4 ?side5 A2.out).mono ?_); (case side1 => exact zd46); (case side2 => exact zd44); (case side3 => exact pC (rr HO181.out).2.2); (case side4 => exact (rr HO181.out).2.1); (case side5 => exact far_slice (IsS129.own_ne HI0.out HO181.out (by decide))); rintro e w8 ⟨rfl, hi, hb, hk⟩; refine ⟨_, rfl, ?_⟩; have n_ := t5 (KeepBut.blk hk (g' := gb178) (o := .cells #[.int .i64 0, .slice none 0 0, .slice none 0 0] 27 (0, 0)) (pK BK178) NB178_0.out (by simp)) (Kd.R_mono (Kd.R_keep (IsS129.apart (show IsS129 w0 _ g s0_0 s0_1 from by repeat (first | (with_reducible first | exact HI0.out | apply IsS129.alloc | apply IsS129.drewN | apply IsS129.drew | apply IsS129.set_1 | refine IsS129.far ?_ NB0_178.out _) | exact HI0.out)) (pR HO181) (by decide)) hk (fun _ h => h.2)) (fun _ h => h.1)) (KeepBut.trans zd23 hk (.inl rfl)) (hb) (hi); clear BK178 HO181 HK HB HI0; obtain ⟨BK178, HO181, HK, HB, HI0⟩ := n_; (try clear hb); (try clear hk); (try clear hi)) | ((with_reducible refine gate_dst (N := 3) rfl ?_); refine box_event ?hg (N := 3) ?hd (cs := #[.int .i64 0, .slice none 0 0, .slice none 0 0]) (t := 27) ?hr ?_; (case hd => rfl); (case hg => rfl); (case hr => first | (go_simp; done) | (go_simp; rfl)); intro gb184 hg w9 hbox hb; have n_ := t12 (Kd.R_below (pR HO181) hb) (IsS129.below zd46 hb) (blk_below (g := gb178) (o := .cells #[.int .i64 0, .slice none 0 0, .slice none 0 0] 27 (0, 0)) (pK BK178) hb) (KeepBut.trans zd23 (KeepBut.of_below hb g none) (.inl rfl)) (bz_ zd44 hb) (hbox) ((by rw [hg]; exact (keep_size (w := w) (g := g) (row := none) zd23) : w.heap.size ≤ gb184)) ((Nat.le_trans HW0.out (by rw [hg]; exact (keep_size (w := w) (g := g) (row := none) zd23) : w.heap.size ≤ gb184) : w0.heap.size ≤ gb184)) ((by rw [hg]; exact Nat.ne_of_lt (blk_lt (g := gb178) (o := .cells #[.int .i64 0, .slice none 0 0, .slice none 0 0] 27 (0, 0)) (pK BK178)) : gb178 ≠ gb184)) ((by rw [hg]; exact Nat.ne_of_gt (blk_lt (g := gb178) (o := .cells #[.int .i64 0, .slice none 0 0, .slice none 0 0] 27 (0, 0)) (pK BK178)) : gb184 ≠ gb178)) ((by rw [hg]; exact Nat.ne_of_lt (IsS129.lt (show IsS129 w0 _ g s0_0 t183 from by repeat (first | (with_reducible first | exact HI0.out | apply IsS129.alloc | apply IsS129.drewN | apply IsS129.drew | apply IsS129.set_1 | refine IsS129.far ?_ NB0_178.out _) | exact HI0.out))) : g ≠ gb184)) ((by rw [hg]; exact Nat.ne_of_gt (IsS129.lt (show IsS129 w0 _ g s0_0 t183 from by repeat (first | (with_reducible first | exact HI0.out | apply IsS129.alloc | apply IsS129.drewN | apply IsS129.drew | apply IsS129.set_1 | refine IsS129.far ?_ NB0_178.out _) | exact HI0.out))) : gb184 ≠ g)); clear HO181 HI0 BK178 HK HB; obtain ⟨HO181, HI0, BK178, HK, HB, BK184, GW184, GE184, NB178_184, NB184_178, NB0_184, NB184_0⟩ := n_; clear hb hbox hg; have hnb10 := NB184_178.out; have hnc10 := NB178_184.out; have hnb11 := NB184_0.out; have hnc11 := NB0_184.out; have hcz12_0 : w9.cell? ⟨gb184, 0, none⟩ = some (.int .i64 0) := (blk_cell BK184.out 0).trans rfl; have hcz12_1 : w9.cell? ⟨gb184, 1, none⟩ = some (.slice none 0 0) := (blk_cell BK184.out 1).trans rfl; have hcz12_2 : w9.cell? ⟨gb184, 2, none⟩ = some (.slice none 0 0) := (blk_cell BK184.out 2).trans rfl; have hfz12_0 := blk_frozen BK184.out 0; have hfz12_1 := blk_frozen BK184.out 1; have hfz12_2 := blk_frozen BK184.out 2) | ((with_reducible refine gC (f := 77) rfl ?_); refine goesL_ (some 11) rfl rfl Try.func77 (by kernel_rfl) rfl #[.pointer (some ⟨g, 0, none⟩), .int .i64 3] rfl pA ?_; (with_reducible refine (spec_l1Next.calls g s0_0 t183 3 t185 t186 w0 _ ?side1 ?side2 A3.out).mono ?_); (case side1 => exact zd16); (case side2 => exact zd15); rintro e w13 ⟨rfl, hi, hb, hk⟩; refine ⟨_, rfl, ?_⟩; have n_ := t6 (KeepBut.blk hk (g' := gb178) (o := .cells #[.int .i64 0, .slice none 0 0, .slice none 0 0] 27 (0, 0)) (by (with_reducible repeat (first | refine blk_drewN ?_ _ | refine blk_drew ?_ | refine blk_alloc ?_ _)); refine blk_far ?_ NB178_184.out _; (with_reducible repeat (first | refine blk_drewN ?_ _ | refine blk_drew ?_ | refine blk_alloc ?_ _)); refine blk_far ?_ NB178_184.out _; (with_reducible repeat (first | refine blk_drewN ?_ _ | refine blk_drew ?_ | refine blk_alloc ?_ _)); refine blk_far ?_ NB178_184.out _; (with_reducible repeat (first | refine blk_drewN ?_ _ | refine blk_drew ?_ | refine blk_alloc ?_ _)); exact BK178.out) NB178_0.out (by simp)) (Kd.R_mono (Kd.R_keep (IsS129.apart (show IsS129 w0 _ g s0_0 t183 from by repeat (first | (with_reducible first | exact HI0.out | apply IsS129.alloc | apply IsS129.drewN | apply IsS129.drew | apply IsS129.set_1 | refine IsS129.far ?_ NB0_178.out _ | refine IsS129.far ?_ NB0_184.out _) | exact HI0.out)) (pT (Kd.R_mono (Kd.R_far (p := ⟨gb184, 2, none⟩) (Kd.R_far (p := ⟨gb184, 1, none⟩) (Kd.R_far (p := ⟨gb184, 0, none⟩) (Kd.R_types HO181.out BK184.out (by decide)) (fun _ hk => hk.2) (.int .i64 t182)) (fun _ hk => hk.2) (.slice none 0 0)) (fun _ hk => hk.2) (.slice none 0 0)) (fun _ h_ => h_.1))) (by decide)) hk (fun _ h => h.2)) (fun _ h => h.1)) (KeepBut.blk hk (g' := gb184) (o := .cells #[.int .i64 t182, .slice none 0 0, .slice none 0 0] 27 (0, 0)) (by (with_reducible repeat (first | refine blk_drewN ?_ _ | refine blk_drew ?_ | refine blk_alloc ?_ _)); refine blk_put (cs := #[.int .i64 t182, .slice none 0 0, .slice none 0 0]) ?_ 2 _ rfl; (with_reducible repeat (first | refine blk_drewN ?_ _ | refine blk_drew ?_ | refine blk_alloc ?_ _)); refine blk_put (cs := #[.int .i64 t182, .slice none 0 0, .slice none 0 0]) ?_ 1 _ rfl; (with_reducible repeat (first | refine blk_drewN ?_ _ | refine blk_drew ?_ | refine blk_alloc ?_ _)); refine blk_put (cs := #[.int .i64 0, .slice none 0 0, .slice none 0 0]) ?_ 0 _ rfl; (with_reducible repeat (first | refine blk_drewN ?_ _ | refine blk_drew ?_ | refine blk_alloc ?_ _)); exact BK184.out) NB184_0.out (by simp)) (KeepBut.trans zd12 hk (.inl rfl)) (hb) (hi); clear BK178 HO181 BK184 HK HB HI0; obtain ⟨BK178, HO181, BK184, HK, HB, HI0⟩ := n_; (try clear hb); (try clear hk); (try clear hi)))
 go_loopg [4] k (fun kq v4 w' => ∃ (x4_1 : Int) (x1001_1 : Int) (x185001_1 : List (S34)) (u185001 : Value), v4 = .int .i64 x4_1 ∧ Aside0 (spec_l3Draw.l0 kq x4_1 s0_0 x1001_1 t182 x185001_1 = some (r1, r2, r3, r4)) ∧ Aside0 (kq ≤ k) ∧ Aside0 (Kd.S k34 34 w' w.heap.size (fun _ => True) u185001 x185001_1) ∧ Aside0 (w'.heap[gb178]? = some (.cells #[.int .i64 0, (.slice none 0 0), (.slice none 0 0)] 27 (0, 0))) ∧ Aside0 (w'.heap[gb184]? = some (.cells #[.int .i64 t182, u185001, (.slice none 0 0)] 27 (0, 0))) ∧ Aside0 (IsS129 w0 w' g s0_0 x1001_1) ∧ Aside0 (KeepBut w w' g none) ∧ Aside0 (Below w0.heap.size w0 w'))
 case atStart => exact ⟨(t185), (t186), (([] : List (S34))), (.slice none 0 0), pF, H', ⟨Nat.le_refl _⟩, ⟨by first | exact Kd.S_nil _ _ _ _ _ | exact Kd.N_nil _ _ _ _ _ | exact Kd.V_nil _ _ _ _ _ | exact Kd.Q_nil _ _ _ _ _ | exact Kd.R_nil _ _ _ _ _⟩, ⟨(pK BK178)⟩, ⟨(pK BK184)⟩, ⟨by repeat (first | (with_reducible first | exact HI0.out | apply IsS129.alloc | apply IsS129.drewN | apply IsS129.drew | apply IsS129.set_1 | refine IsS129.far ?_ NB0_178.out _ | refine IsS129.far ?_ NB0_184.out _) | exact HI0.out)⟩, ⟨by repeat (first | (with_reducible first | exact HK.out | apply KeepBut.set_ | apply keep_drewN | apply keep_drew | apply keep_alloc | refine keep_far ?_ GW178.out _ | refine keep_far ?_ GW184.out _) | exact HK.out)⟩, ⟨by repeat (first | (with_reducible first | exact HB.out | apply below_alloc | apply pw_below_drewN | apply below_drew1 | refine below_set ?_ (IsS129.ge HI0.out) | refine below_set ?_ GE178.out | refine below_set ?_ GE184.out) | exact HB.out)⟩⟩
 case round =>
  clear H'
  (try clear hcz12_0); (try clear hcz12_1); (try clear hcz12_2); (try clear hfz12_0); (try clear hfz12_1); (try clear hfz12_2)
  obtain ⟨x4_1, x1001_1, x185001_1, u185001, rfl, HA, HK1, HO_185001, BK178, BK184, HI0, HK, HB⟩ := hrel
  cases gk with
  | zero => exact absurd HA.out (by simp [spec_l3Draw.l0])
  | succ k1 =>
   have H := HA.out
   clear HA
   simp only [spec_l3Draw.l0] at H
   by_cases c14 : x4_1 > 0
   · rw [if_pos c14] at H
     have c14b0 : decide (0 < x4_1) = true := dt c14
     clear c14
     obtain ⟨y187, hy187⟩ : ∃ y_ : List Int, y_ = (([7, 70000, 2147483646] : List Int)) := ⟨_, rfl⟩
     replace H : ((spec_l1Pick.f s0_0 x1001_1 y187).bind fun bt190 => ((spec_l1Next.f s0_0 bt190.2 1000).bind fun bt192 => (if x185001_1.length < 3518437208883 then (spec_l3Draw.l0 k1 (wrap64 (x4_1 - 1)) s0_0 bt192.2 t182 (x185001_1 ++ [(⟨bt190.1, (x185001_1.length : Int), (([bt192.1] : List Int))⟩ : S34)])) else (none)))) = some (r1, r2, r3, r4) := by first | (rw [hy187]; with_reducible exact H) | (have H2_ := (Option.bind_some _ _).symm.trans H; rw [hy187]; with_reducible exact H2_) | (have H2_ := (Option.bind_some _ _).symm.trans H; with_reducible exact H2_) | with_reducible exact H | (rw [hy187]; exact H) | exact H
     have Ny187 := am hy187; clear hy187
     obtain ⟨⟨t190, t191⟩, A150, H⟩ := bO H
     replace H : ((spec_l1Next.f s0_0 t191 1000).bind fun bt192 => (if x185001_1.length < 3518437208883 then (spec_l3Draw.l0 k1 (wrap64 (x4_1 - 1)) s0_0 bt192.2 t182 (x185001_1 ++ [(⟨t190, (x185001_1.length : Int), (([bt192.1] : List Int))⟩ : S34)])) else (none))) = some (r1, r2, r3, r4) := H
     have A15 := am A150; clear A150
     obtain ⟨⟨t192, t193⟩, A160, H⟩ := bO H
     replace H : (if x185001_1.length < 3518437208883 then (spec_l3Draw.l0 k1 (wrap64 (x4_1 - 1)) s0_0 t193 t182 (x185001_1 ++ [(⟨t190, (x185001_1.length : Int), (([t192] : List Int))⟩ : S34)])) else (none)) = some (r1, r2, r3, r4) := H
     have A16 := am A160; clear A160
     obtain ⟨y194, hy194⟩ : ∃ y_ : List Int, y_ = (([t192] : List Int)) := ⟨_, rfl⟩
     replace H : (if x185001_1.length < 3518437208883 then (spec_l3Draw.l0 k1 (wrap64 (x4_1 - 1)) s0_0 t193 t182 (x185001_1 ++ [(⟨t190, (x185001_1.length : Int), y194⟩ : S34)])) else (none)) = some (r1, r2, r3, r4) := by first | (rw [hy194]; with_reducible exact H) | (have H2_ := (Option.bind_some _ _).symm.trans H; rw [hy194]; with_reducible exact H2_) | (have H2_ := (Option.bind_some _ _).symm.trans H; with_reducible exact H2_) | with_reducible exact H | (rw [hy194]; exact H) | exact H
     have Ny194 := am hy194; clear hy194
     by_cases c17 : x185001_1.length < 3518437208883
     · rw [if_pos c17] at H
       have LMc17 := am c17; clear c17
       obtain ⟨y197, hy197⟩ : ∃ y_ : List (S34), y_ = (x185001_1 ++ [(⟨t190, (x185001_1.length : Int), y194⟩ : S34)]) := ⟨_, rfl⟩
       replace H : (spec_l3Draw.l0 k1 (wrap64 (x4_1 - 1)) s0_0 t193 t182 y197) = some (r1, r2, r3, r4) := by first | (rw [hy197]; with_reducible exact H) | (have H2_ := (Option.bind_some _ _).symm.trans H; rw [hy197]; with_reducible exact H2_) | (have H2_ := (Option.bind_some _ _).symm.trans H; with_reducible exact H2_) | with_reducible exact H | (rw [hy197]; exact H) | exact H
       have Ny197 := am hy197; clear hy197
       have H' := am H
       clear H
       try go_wp2
       have n_ := t6 (Kd.S_drew HO_185001.out) (blk_drew BK178.out) (blk_drew BK184.out) (IsS129.drew HI0.out) (keep_drew HK.out) (below_drew1 HB.out)
       clear HO_185001 BK178 BK184 HI0 HK HB; obtain ⟨HO_185001, BK178, BK184, HI0, HK, HB⟩ := n_
       obtain ⟨Ao19, co19, eo19⟩ := Kd.S_slice HO_185001.out
       (first | subst eo19 | (injection eo19 with f1_ f2_ f3_; have f4_ := f1_.symm; have f5_ := f3_.symm; clear f1_ f2_ f3_; subst f4_; subst f5_))
       refine start_ (n := 16) (S := fun w' => w'.cell? ⟨gb184, 0, none⟩ = some (.int .i64 t182) ∧ w'.cell? ⟨gb184, 1, none⟩ = some (.slice Ao19 x185001_1.length co19) ∧ w'.cell? ⟨gb184, 2, none⟩ = some (.slice none 0 0)) (ds := [15]) #[false, false, false, false, false, false, false, false, false, false, false, false, false, false, false, false] (by kernel_rfl) rfl rfl ⟨(blk_cell BK184.out 0).trans rfl, (blk_cell BK184.out 1).trans rfl, (blk_cell BK184.out 2).trans rfl⟩ (fun hHeld => ?_); refine with_tabW spec_l3Draw.tab5 spec_l3Draw.bits5 (fun HT_ HW_ => ?_)
       generalize wr.drew = w18 at HO_185001 BK178 BK184 HI0 HK HB hHeld ⊢
       refine pure_ (i := 0) (N := some 16) (v := ?_) (a' := ?_) #[true, false, false, false, false, false, false, false, false, false, false, false, false, false, false, false] rfl rfl (any_of HT_.out (by kernel_rfl)) (fun _ _ _ h => h) (Or.inl ⟨by rfl, ?_⟩) ?_ ?_
       rotate_left
       · intro w'
         go_simp
         with_reducible rfl
       rotate_left
       · simp only [Act.put, List.setIfInBounds_toArray, List.set_cons_zero, List.set_cons_succ, i64_w, i32_w]
         rfl
       refine pure_ (i := 2) (N := some 18) (v := ?_) (a' := ?_) #[true, false, true, false, false, false, false, false, false, false, false, false, false, false, false, false] rfl rfl (any_of HT_.out (by kernel_rfl)) (fun _ _ _ h => h) (Or.inl ⟨by rfl, ?_⟩) ?_ ?_
       rotate_left
       · intro w'
         go_simp
         with_reducible rfl
       rotate_left
       · simp only [Act.put, List.setIfInBounds_toArray, List.set_cons_zero, List.set_cons_succ, i64_w, i32_w]
         rfl
       refine pure_ (i := 5) (N := some 21) (v := ?_) (a' := ?_) #[true, false, true, false, false, true, false, false, false, false, false, false, false, false, false, false] rfl rfl (any_of HT_.out (by kernel_rfl)) (fun _ _ _ h => h) (Or.inl ⟨by rfl, ?_⟩) ?_ ?_
       rotate_left
       · intro w'
         go_simp
         with_reducible rfl
       rotate_left
       · simp only [Act.put, List.setIfInBounds_toArray, List.set_cons_zero, List.set_cons_succ, i64_w, i32_w]
         rfl
       refine pure_ (i := 8) (N := some 24) (v := ?_) (a' := ?_) #[true, false, true, false, false, true, false, false, true, false, false, false, false, false, false, false] rfl rfl (any_of HT_.out (by kernel_rfl)) (fun _ _ _ h => h) (Or.inl ⟨by rfl, ?_⟩) ?_ ?_
       rotate_left
       · intro w'
         go_simp
         with_reducible rfl
       rotate_left
       · simp only [Act.put, List.setIfInBounds_toArray, List.set_cons_zero, List.set_cons_succ, i64_w, i32_w]
         rfl
       refine take_ (i := 1) (N := some 17) (v := ?_) (a' := ?_) #[true, true, true, false, false, true, false, false, true, false, false, false, false, false, false, false] rfl rfl (take_ofW HT_.out HW_.out (by kernel_rfl)) (fun _ _ _ h => h) (Or.inl ⟨by rfl, ?_⟩) hHeld ?_ ?_
       rotate_left
       · rintro w' ⟨s0, s1, s2⟩
         go_simp
         with_reducible rfl
       rotate_left
       · simp only [Act.put, List.setIfInBounds_toArray, List.set_cons_zero, List.set_cons_succ, i64_w, i32_w]
         rfl
       refine take_ (i := 6) (N := some 22) (v := ?_) (a' := ?_) #[true, true, true, false, false, true, true, false, true, false, false, false, false, false, false, false] rfl rfl (take_ofW HT_.out HW_.out (by kernel_rfl)) (fun _ _ _ h => h) (Or.inl ⟨by rfl, ?_⟩) hHeld ?_ ?_
       rotate_left
       · rintro w' ⟨s0, s1, s2⟩
         go_simp
         with_reducible rfl
       rotate_left
       · simp only [Act.put, List.setIfInBounds_toArray, List.set_cons_zero, List.set_cons_succ, i64_w, i32_w]
         rfl
       refine pure_ (i := 7) (N := some 23) (v := ?_) (a' := ?_) #[true, true, true, false, false, true, true, true, true, false, false, false, false, false, false, false] rfl rfl (any_of HT_.out (by kernel_rfl)) (fun _ _ _ h => h) (Or.inl ⟨by rfl, ?_⟩) ?_ ?_
       rotate_left
       · intro w'
         go_simp
         with_reducible rfl
       rotate_left
       · simp only [Act.put, List.setIfInBounds_toArray, List.set_cons_zero, List.set_cons_succ, i64_w, i32_w]
         rfl
       refine one_ (i := 3) (N := some 19) #[true, true, true, true, false, true, true, true, true, false, false, false, false, false, false, false] rfl rfl (one_of HT_.out (by kernel_rfl)) (by decide) (fun K hK => ?_)
       refine Kd.R_lit_step (Kd.int .i64) _ 2 ?hg (N := 19) ?hd (xs := ([7, 70000, 2147483646] : List Int)) (inner := [.int .i64 7, .int .i64 70000, .int .i64 2147483646]) (ok := fun _ => True) (okp := fun _ => True) ?hr ?hp (fun _ hk => hk) trivial (Below.refl _ _) (Nat.le_refl _) (by simp) ?_; (case hd => rfl); (case hg => rfl); (case hr => first | (go_simp; done) | (go_simp; rfl)); (case hp => exact (Reps.one (show Kd.M (Kd.int .i64) _ _ _ 7 [.int .i64 7] from rfl) (Reps.one (show Kd.M (Kd.int .i64) _ _ _ 70000 [.int .i64 70000] from rfl) (Reps.one (show Kd.M (Kd.int .i64) _ _ _ 2147483646 [.int .i64 2147483646] from rfl) (Reps.none _ _)))))
       intro v188 w20 ho21 hb hg_ hnew_
       clear hg_ hnew_
       (first | rw [← Ny187.out] at ho21 | (simp only [Int.reduceToNat] at ho21; rw [← Ny187.out] at ho21))
       have n_ := t7 (Kd.S_elder' zd20 (rB ho21) hb) (rL ho21 (keep_size (w := w) (g := g) (row := none) zd12)) (blk_below (g := gb178) (o := .cells #[.int .i64 0, .slice none 0 0, .slice none 0 0] 27 (0, 0)) (pK BK178) hb) (blk_below (g := gb184) (o := .cells #[.int .i64 t182, .slice Ao19 x185001_1.length co19, .slice none 0 0] 27 (0, 0)) (pK BK184) hb) (IsS129.below zd16 hb) (KeepBut.trans zd12 (KeepBut.of_below hb g none) (.inl rfl)) (bz_ zd15 hb)
       clear HO_185001 BK178 BK184 HI0 HK HB; obtain ⟨HO_185001, HO189, BK178, BK184, HI0, HK, HB⟩ := n_; clear hb ho21
       obtain ⟨Ao22, co22, eo22⟩ := rS HO189.out
       (first | subst eo22 | (injection eo22 with f1_ f2_ f3_; have f4_ := f1_.symm; have f5_ := f3_.symm; clear f1_ f2_ f3_; subst f4_; subst f5_))
       refine hK.out _ _ ⟨(blk_cell BK184.out 0).trans rfl, (blk_cell BK184.out 1).trans rfl, (blk_cell BK184.out 2).trans rfl⟩ (fun hHeld => ?_)
       clear hK K
       refine norm_ (a' := ?_) ?_ ?_
       rotate_left
       · show Act.put _ (some 19) _ = _
         simp only [Act.put, List.setIfInBounds_toArray, List.set_cons_zero, List.set_cons_succ, i64_w, i32_w]
         rfl
       refine one_ (i := 4) (N := some 20) #[true, true, true, true, true, true, true, true, true, false, false, false, false, false, false, false] rfl rfl (one_of HT_.out (by kernel_rfl)) (by decide) (fun K hK => ?_)
       refine goes_ Try.func78 (by kernel_rfl) rfl #[.pointer (some ⟨g, 0, none⟩), .slice Ao22 y187.length co22] (by rfl) rfl rfl pA ?_
       with_reducible refine (spec_l1Pick.calls g s0_0 x1001_1 _ _ y187 t190 t191 w0 _ ?side1 ?side2 ?side3 ?side4 ?side5 A15.out).mono ?_
       (case side1 => exact zd16)
       (case side2 => exact zd15)
       (case side3 => exact pC (rr HO189.out).2.2)
       (case side4 => exact (rr HO189.out).2.1)
       (case side5 => exact far_slice (IsS129.own_ne HI0.out HO189.out (by decide)))
       rintro e w23 ⟨rfl, hi, hb, hk⟩
       refine ⟨_, rfl, ?_⟩
       have n_ := t7 (Kd.S_mono (Kd.S_keep (IsS129.apartS (show IsS129 w0 _ g s0_0 x1001_1 from by repeat (first | (with_reducible first | exact HI0.out | apply IsS129.alloc | apply IsS129.drewN | apply IsS129.drew | apply IsS129.set_1 | refine IsS129.far ?_ NB0_178.out _ | refine IsS129.far ?_ NB0_184.out _) | exact HI0.out)) zd20 (by decide)) hk (fun _ h => h.2)) (fun _ h => h.1)) (KeepBut.blk hk (g' := gb178) (o := .cells #[.int .i64 0, .slice none 0 0, .slice none 0 0] 27 (0, 0)) (pK BK178) NB178_0.out (by simp)) (KeepBut.blk hk (g' := gb184) (o := .cells #[.int .i64 t182, .slice Ao19 x185001_1.length co19, .slice none 0 0] 27 (0, 0)) (pK BK184) NB184_0.out (by simp)) (Kd.R_mono (Kd.R_keep (IsS129.apart (show IsS129 w0 _ g s0_0 x1001_1 from by repeat (first | (with_reducible first | exact HI0.out | apply IsS129.alloc | apply IsS129.drewN | apply IsS129.drew | apply IsS129.set_1 | refine IsS129.far ?_ NB0_178.out _ | refine IsS129.far ?_ NB0_184.out _) | exact HI0.out)) (pR HO189) (by decide)) hk (fun _ h => h.2)) (fun _ h => h.1)) (KeepBut.trans zd12 hk (.inl rfl)) (hb) (hi)
       clear HO_185001 BK178 BK184 HO189 HK HB HI0; obtain ⟨HO_185001, BK178, BK184, HO189, HK, HB, HI0⟩ := n_; (try clear hb); (try clear hb2); (try clear hk); (try clear hi)
       refine hK.out _ _ ⟨(blk_cell BK184.out 0).trans rfl, (blk_cell BK184.out 1).trans rfl, (blk_cell BK184.out 2).trans rfl⟩ (fun hHeld => ?_)
       clear hK K
       refine norm_ (a' := ?_) ?_ ?_
       rotate_left
       · show Act.put _ (some 20) _ = _
         simp only [Act.put, List.setIfInBounds_toArray, List.set_cons_zero, List.set_cons_succ, i64_w, i32_w]
         rfl
       refine one_ (i := 9) (N := some 25) #[true, true, true, true, true, true, true, true, true, true, false, false, false, false, false, false] rfl rfl (one_of HT_.out (by kernel_rfl)) (by decide) (fun K hK => ?_)
       refine goes_ Try.func77 (by kernel_rfl) rfl #[.pointer (some ⟨g, 0, none⟩), .int .i64 1000] (by rfl) rfl rfl pA ?_
       with_reducible refine (spec_l1Next.calls g s0_0 t191 1000 t192 t193 w0 _ ?side1 ?side2 A16.out).mono ?_
       (case side1 => exact zd16)
       (case side2 => exact zd15)
       rintro e w24 ⟨rfl, hi, hb, hk⟩
       refine ⟨_, rfl, ?_⟩
       have n_ := t7 (Kd.S_mono (Kd.S_keep (IsS129.apartS (show IsS129 w0 _ g s0_0 t191 from by repeat (first | (with_reducible first | exact HI0.out | apply IsS129.alloc | apply IsS129.drewN | apply IsS129.drew | apply IsS129.set_1 | refine IsS129.far ?_ NB0_178.out _ | refine IsS129.far ?_ NB0_184.out _) | exact HI0.out)) zd20 (by decide)) hk (fun _ h => h.2)) (fun _ h => h.1)) (KeepBut.blk hk (g' := gb178) (o := .cells #[.int .i64 0, .slice none 0 0, .slice none 0 0] 27 (0, 0)) (pK BK178) NB178_0.out (by simp)) (KeepBut.blk hk (g' := gb184) (o := .cells #[.int .i64 t182, .slice Ao19 x185001_1.length co19, .slice none 0 0] 27 (0, 0)) (pK BK184) NB184_0.out (by simp)) (Kd.R_mono (Kd.R_keep (IsS129.apart (show IsS129 w0 _ g s0_0 t191 from by repeat (first | (with_reducible first | exact HI0.out | apply IsS129.alloc | apply IsS129.drewN | apply IsS129.drew | apply IsS129.set_1 | refine IsS129.far ?_ NB0_178.out _ | refine IsS129.far ?_ NB0_184.out _) | exact HI0.out)) (pR HO189) (by decide)) hk (fun _ h => h.2)) (fun _ h => h.1)) (KeepBut.trans zd12 hk (.inl rfl)) (hb) (hi)
       clear HO_185001 BK178 BK184 HO189 HK HB HI0; obtain ⟨HO_185001, BK178, BK184, HO189, HK, HB, HI0⟩ := n_; (try clear hb); (try clear hb2); (try clear hk); (try clear hi)
       refine hK.out _ _ ⟨(blk_cell BK184.out 0).trans rfl, (blk_cell BK184.out 1).trans rfl, (blk_cell BK184.out 2).trans rfl⟩ (fun hHeld => ?_)
       clear hK K
       refine norm_ (a' := ?_) ?_ ?_
       rotate_left
       · show Act.put _ (some 25) _ = _
         simp only [Act.put, List.setIfInBounds_toArray, List.set_cons_zero, List.set_cons_succ, i64_w, i32_w]
         rfl
       refine one_ (i := 10) (N := some 26) #[true, true, true, true, true, true, true, true, true, true, true, false, false, false, false, false] rfl rfl (one_of HT_.out (by kernel_rfl)) (by decide) (fun K hK => ?_)
       refine Kd.R_lit_step (Kd.int .i64) _ 2 ?hg (N := 26) ?hd (xs := ([t192] : List Int)) (inner := [.int .i64 t192]) (ok := fun _ => True) (okp := fun _ => True) ?hr ?hp (fun _ hk => hk) trivial (Below.refl _ _) (Nat.le_refl _) (by simp) ?_; (case hd => rfl); (case hg => rfl); (case hr => first | (go_simp; done) | (go_simp; rfl)); (case hp => exact (Reps.one (show Kd.M (Kd.int .i64) _ _ _ t192 [.int .i64 t192] from rfl) (Reps.none _ _)))
       intro v195 w25 ho26 hb hg_ hnew_
       clear hg_ hnew_
       (first | rw [← Ny194.out] at ho26 | (simp only [Int.reduceToNat] at ho26; rw [← Ny194.out] at ho26))
       have n_ := t8 (Kd.S_elder' zd20 (rB ho26) hb) (rE (pR HO189) (rB ho26) hb) (rL (rW ho26 (Kd.R_lt (pR HO189))) (keep_size (w := w) (g := g) (row := none) zd12)) (blk_below (g := gb178) (o := .cells #[.int .i64 0, .slice none 0 0, .slice none 0 0] 27 (0, 0)) (pK BK178) hb) (blk_below (g := gb184) (o := .cells #[.int .i64 t182, .slice Ao19 x185001_1.length co19, .slice none 0 0] 27 (0, 0)) (pK BK184) hb) (IsS129.below zd16 hb) (KeepBut.trans zd12 (KeepBut.of_below hb g none) (.inl rfl)) (bz_ zd15 hb)
       clear HO_185001 HO189 BK178 BK184 HI0 HK HB; obtain ⟨HO_185001, HO189, HO196, BK178, BK184, HI0, HK, HB⟩ := n_; clear hb ho26
       obtain ⟨Ao27, co27, eo27⟩ := rS HO196.out
       (first | subst eo27 | (injection eo27 with f1_ f2_ f3_; have f4_ := f1_.symm; have f5_ := f3_.symm; clear f1_ f2_ f3_; subst f4_; subst f5_))
       refine hK.out _ _ ⟨(blk_cell BK184.out 0).trans rfl, (blk_cell BK184.out 1).trans rfl, (blk_cell BK184.out 2).trans rfl⟩ (fun hHeld => ?_)
       clear hK K
       refine norm_ (a' := ?_) ?_ ?_
       rotate_left
       · show Act.put _ (some 26) _ = _
         simp only [Act.put, List.setIfInBounds_toArray, List.set_cons_zero, List.set_cons_succ, i64_w, i32_w]
         rfl
       refine pure_ (i := 11) (N := some 27) (v := ?_) (a' := ?_) #[true, true, true, true, true, true, true, true, true, true, true, true, false, false, false, false] rfl rfl (any_of HT_.out (by kernel_rfl)) (fun _ _ _ h => h) (Or.inl ⟨by rfl, ?_⟩) ?_ ?_
       rotate_left
       · intro w'
         go_simp
         with_reducible rfl
       rotate_left
       · simp only [Act.put, List.setIfInBounds_toArray, List.set_cons_zero, List.set_cons_succ, i64_w, i32_w]
         rfl
       refine one_ (i := 12) (N := some 28) #[true, true, true, true, true, true, true, true, true, true, true, true, true, false, false, false] rfl rfl (one_of HT_.out (by kernel_rfl)) (by decide) (fun K hK => ?_)
       refine value_ (w1 := ?_) (v := ?_) (by rfl) rfl ?_ ?_
       rotate_left 2
       · go_simp
         constructor
         · rfl
         · rfl
       refine hK.out _ _ ⟨(blk_cell (blk_alloc BK184.out _) 0).trans rfl, (blk_cell (blk_alloc BK184.out _) 1).trans rfl, (blk_cell (blk_alloc BK184.out _) 2).trans rfl⟩ (fun hHeld => ?_)
       clear hK K
       refine norm_ (a' := ?_) ?_ ?_
       rotate_left
       · show Act.put _ (some 28) _ = _
         simp only [Act.put, List.setIfInBounds_toArray, List.set_cons_zero, List.set_cons_succ, i64_w, i32_w]
         rfl
       refine one_ (i := 13) (N := some 29) #[true, true, true, true, true, true, true, true, true, true, true, true, true, true, false, false] rfl rfl (one_of HT_.out (by kernel_rfl)) (by decide) (fun K hK => ?_)
       refine Kd.S_append_step k34 w.heap.size (by rfl) (.tmp 17) (.tmp 28) 24 34 (.agg #[(.int .i64 0), (.int .i64 0), (.slice none 0 0)]) 40 rfl Try.underlying24 info34 rfl (by decide) (by omega) (.slice Ao19 x185001_1.length co19) x185001_1 (⟨t190, (x185001_1.length : Int), y194⟩ : S34) [.int .i64 t190, .int .i64 (x185001_1.length : Int), .slice Ao27 y194.length co27] (fun k_ => some k_ ≠ (.slice Ao22 y187.length co22 : Value).ownBlock) (fun k_ => some k_ = (.slice Ao27 y194.length co27 : Value).ownBlock) rfl rfl ?aP (fun k_ hk_ => ((Kd.R_mono (ok' := fun k_ => ((fun k_ => some k_ ≠ (.slice Ao22 y187.length co22 : Value).ownBlock)) k_ ∧ some k_ ≠ (.slice Ao19 x185001_1.length co19 : Value).ownBlock) (Kd.R_apart' (HO196.out) (Kd.S_typed HO_185001.out) (by decide)) (fun k_ hk => ⟨hk.1.2, hk.2⟩))).1 k_ hk_.symm) ?aF ?aO (Below.refl _ _) ?aS ?aL ?_
       (case aP => exact k34_mkM _ _ _ (⟨t190, (x185001_1.length : Int), y194⟩ : S34) (Kd.R_mono (Kd.R_tight rfl (Kd.R_mono (ok' := fun k_ => ((fun k_ => some k_ ≠ (.slice Ao22 y187.length co22 : Value).ownBlock)) k_ ∧ some k_ ≠ (.slice Ao19 x185001_1.length co19 : Value).ownBlock) (Kd.R_apart' (HO196.out) (Kd.S_typed HO_185001.out) (by decide)) (fun k_ hk => ⟨hk.1.2, hk.2⟩))) (fun _ h_ => h_)))
       (case aF => exact (fun k_ hk => Kd.fresh' (Kd.R_lt (pR HO189)) k_ hk))
       (case aO => exact (by (with_reducible repeat (first | apply Kd.S_alloc | apply Kd.S_drewN | apply Kd.S_drew)); exact Kd.S_mono HO_185001.out (fun k_ hk => ⟨hk.1.2, fun e_ => hk.2 e_⟩)))
       (case aS => exact (keep_size (w := w) (g := g) (row := none) zd12))
       (case aL => have := LMc17.out; omega)
       intro v198 w28 ho hb hg hat
       rw [← Ny197.out] at ho
       have n_ := t7 (blk_grown (g := gb178) (o := .cells #[.int .i64 0, .slice none 0 0, .slice none 0 0] 27 (0, 0)) (pK BK178) hg (Kd.S_ne HO_185001.out BK178.out (by decide))) (blk_grown (g := gb184) (o := .cells #[.int .i64 t182, .slice Ao19 x185001_1.length co19, .slice none 0 0] 27 (0, 0)) (pK BK184) hg (Kd.S_ne HO_185001.out BK184.out (by decide))) (IsS129.grown zd16 hg (IsS129.own_neS HI0.out HO_185001.out (by decide))) (Kd.R_over' (pR HO189) (Kd.S_typed zd20) (by decide) hg) (below_weaken zd15 HL.out hb) (KeepBut.trans zd12 (KeepBut.of_grown hg g) (Kd.S_base2 HO_185001.out)) (ho)
       clear BK178 BK184 HI0 HO189 HB HK HO_185001 HO196; obtain ⟨BK178, BK184, HI0, HO189, HB, HK, HO199⟩ := n_; clear ho hb hg hat
       obtain ⟨Ao29, co29, eo29⟩ := Kd.S_slice HO199.out
       (first | subst eo29 | (injection eo29 with f1_ f2_ f3_; have f4_ := f1_.symm; have f5_ := f3_.symm; clear f1_ f2_ f3_; subst f4_; subst f5_))
       refine hK.out _ _ ⟨(blk_cell BK184.out 0).trans rfl, (blk_cell BK184.out 1).trans rfl, (blk_cell BK184.out 2).trans rfl⟩ (fun hHeld => ?_)
       clear hK K
       refine norm_ (a' := ?_) ?_ ?_
       rotate_left
       · show Act.put _ (some 29) _ = _
         simp only [Act.put, List.setIfInBounds_toArray, List.set_cons_zero, List.set_cons_succ, i64_w, i32_w]
         rfl
       refine pure_ (i := 14) (N := some 30) (v := ?_) (a' := ?_) #[true, true, true, true, true, true, true, true, true, true, true, true, true, true, true, false] rfl rfl (any_of HT_.out (by kernel_rfl)) (fun _ _ _ h => h) (Or.inl ⟨by rfl, ?_⟩) ?_ ?_
       rotate_left
       · intro w'
         go_simp
         with_reducible rfl
       rotate_left
       · simp only [Act.put, List.setIfInBounds_toArray, List.set_cons_zero, List.set_cons_succ, i64_w, i32_w]
         rfl
       refine last_ (i := 15) (N := none) #[true, true, true, true, true, true, true, true, true, true, true, true, true, true, true, true] rfl rfl (one_of HT_.out (by kernel_rfl)) (by decide) (fun K hK => ?_)
       have hs30 : w28.cell? ⟨gb184, 1, none⟩ = some (.slice Ao19 x185001_1.length co19) := (blk_cell BK184.out 1).trans rfl
       have hfs30 := blk_frozen BK184.out 1
       have hns30_0 := NB178_184.out
       have hms30_0 := NB184_178.out
       refine skip_ (w1 := ?_) (by rfl) rfl ?_ ?_
       rotate_left
       · go_simp
         rfl
       refine hK.out _ _ ?_
       clear hK K
       refine done_ (done_of HT_.out (by kernel_rfl)) ?_
       try go_wp2
       go_roundg k1
       case measure => have := HK1.out; omega
       case rel => exact ⟨(wrap64 (x4_1 - 1)), (t193), (y197), (.slice Ao29 y197.length co29), pF, H', ⟨by have := HK1.out; omega⟩, ⟨by (with_reducible repeat (first | apply Kd.S_alloc | apply Kd.S_drewN | apply Kd.S_drew)); exact Kd.S_mono (Kd.S_far (p := ⟨gb184, 1, none⟩) (Kd.S_types HO199.out BK184.out (by decide)) (fun _ hk => hk.2) (.slice Ao29 y197.length co29)) (fun _ hk => trivial)⟩, ⟨by (with_reducible repeat (first | refine blk_drewN ?_ _ | refine blk_drew ?_ | refine blk_alloc ?_ _)); refine blk_far ?_ NB178_184.out _; (with_reducible repeat (first | refine blk_drewN ?_ _ | refine blk_drew ?_ | refine blk_alloc ?_ _)); exact BK178.out⟩, ⟨by (with_reducible repeat (first | refine blk_drewN ?_ _ | refine blk_drew ?_ | refine blk_alloc ?_ _)); refine blk_put (cs := #[.int .i64 t182, .slice Ao19 x185001_1.length co19, .slice none 0 0]) ?_ 1 _ rfl; (with_reducible repeat (first | refine blk_drewN ?_ _ | refine blk_drew ?_ | refine blk_alloc ?_ _)); exact BK184.out⟩, ⟨by repeat (first | (with_reducible first | exact HI0.out | apply IsS129.alloc | apply IsS129.drewN | apply IsS129.drew | apply IsS129.set_1 | refine IsS129.far ?_ NB0_178.out _ | refine IsS129.far ?_ NB0_184.out _) | exact HI0.out)⟩, ⟨by repeat (first | (with_reducible first | exact HK.out | apply KeepBut.set_ | apply keep_drewN | apply keep_drew | apply keep_alloc | refine keep_far ?_ GW178.out _ | refine keep_far ?_ GW184.out _) | exact HK.out)⟩, ⟨by repeat (first | (with_reducible first | exact HB.out | apply below_alloc | apply pw_below_drewN | apply below_drew1 | refine below_set ?_ (IsS129.ge HI0.out) | refine below_set ?_ GE178.out | refine below_set ?_ GE184.out) | exact HB.out)⟩⟩
     · rw [if_neg c17] at H
       exact absurd H (by simp)
   · rw [if_neg c14] at H
     have c14b0 : decide (0 < x4_1) = false := decide_eq_false c14
     clear c14
     obtain ⟨⟨t200, t201⟩, A310, H⟩ := bO H
     replace H : (spec_l3Draw.l1 k1 (wrap64 (1 + t200)) s0_0 t201 t182 x185001_1 ([] : List (S86))) = some (r1, r2, r3, r4) := H
     have A31 := am A310; clear A310
     have H' := am H
     clear H
     go_wp2_with (first | ((with_reducible refine gC (f := 77) rfl ?_); refine goesL_ (some 32) rfl rfl Try.func77 (by kernel_rfl) rfl #[.pointer (some ⟨g, 0, none⟩), .int .i64 3] rfl pA ?_; (with_reducible refine (spec_l1Next.calls g s0_0 x1001_1 3 t200 t201 w0 _ ?side1 ?side2 A31.out).mono ?_); (case side1 => exact zd16); (case side2 => exact zd15); rintro e w32 ⟨rfl, hi, hb, hk⟩; refine ⟨_, rfl, ?_⟩; have n_ := t6 (Kd.S_mono (Kd.S_keep (IsS129.apartS (show IsS129 w0 _ g s0_0 x1001_1 from by repeat (first | (with_reducible first | exact HI0.out | apply IsS129.alloc | apply IsS129.drewN | apply IsS129.drew | apply IsS129.set_1 | refine IsS129.far ?_ NB0_178.out _ | refine IsS129.far ?_ NB0_184.out _) | exact HI0.out)) zd20 (by decide)) hk (fun _ h => h.2)) (fun _ h => h.1)) (KeepBut.blk hk (g' := gb178) (o := .cells #[.int .i64 0, .slice none 0 0, .slice none 0 0] 27 (0, 0)) (pK BK178) NB178_0.out (by simp)) (KeepBut.blk hk (g' := gb184) (o := .cells #[.int .i64 t182, u185001, .slice none 0 0] 27 (0, 0)) (pK BK184) NB184_0.out (by simp)) (KeepBut.trans zd12 hk (.inl rfl)) (hb) (hi); clear HO_185001 BK178 BK184 HK HB HI0; obtain ⟨HO_185001, BK178, BK184, HK, HB, HI0⟩ := n_; (try clear hb); (try clear hk); (try clear hi)))
     go_loopg [5] k1 (fun kq v5 w' => ∃ (x5_2 : Int) (x1001_2 : Int) (x185002_2 : List (S86)) (u185002 : Value), v5 = .int .i64 x5_2 ∧ Aside0 (spec_l3Draw.l1 kq x5_2 s0_0 x1001_2 t182 x185001_1 x185002_2 = some (r1, r2, r3, r4)) ∧ Aside0 (kq ≤ k1) ∧ Aside0 (Kd.S k34 34 w' w.heap.size (fun _ => True) u185001 x185001_1) ∧ Aside0 (Kd.S k86 86 w' w.heap.size (fun _ => True) u185002 x185002_2) ∧ Aside0 (w'.heap[gb178]? = some (.cells #[.int .i64 0, (.slice none 0 0), (.slice none 0 0)] 27 (0, 0))) ∧ Aside0 (w'.heap[gb184]? = some (.cells #[.int .i64 t182, u185001, u185002] 27 (0, 0))) ∧ Aside0 (IsS129 w0 w' g s0_0 x1001_2) ∧ Aside0 (KeepBut w w' g none) ∧ Aside0 (Below w0.heap.size w0 w'))
     case atStart => exact ⟨(wrap64 (1 + t200)), (t201), (([] : List (S86))), (.slice none 0 0), pF, H', ⟨Nat.le_refl _⟩, ⟨by (with_reducible repeat (first | apply Kd.S_alloc | apply Kd.S_drewN | apply Kd.S_drew)); exact HO_185001.out⟩, ⟨by first | exact Kd.S_nil _ _ _ _ _ | exact Kd.N_nil _ _ _ _ _ | exact Kd.V_nil _ _ _ _ _ | exact Kd.Q_nil _ _ _ _ _ | exact Kd.R_nil _ _ _ _ _⟩, ⟨(pK BK178)⟩, ⟨(pK BK184)⟩, ⟨by repeat (first | (with_reducible first | exact HI0.out | apply IsS129.alloc | apply IsS129.drewN | apply IsS129.drew | apply IsS129.set_1 | refine IsS129.far ?_ NB0_178.out _ | refine IsS129.far ?_ NB0_184.out _) | exact HI0.out)⟩, ⟨by repeat (first | (with_reducible first | exact HK.out | apply KeepBut.set_ | apply keep_drewN | apply keep_drew | apply keep_alloc | refine keep_far ?_ GW178.out _ | refine keep_far ?_ GW184.out _) | exact HK.out)⟩, ⟨by repeat (first | (with_reducible first | exact HB.out | apply below_alloc | apply pw_below_drewN | apply below_drew1 | refine below_set ?_ (IsS129.ge HI0.out) | refine below_set ?_ GE178.out | refine below_set ?_ GE184.out) | exact HB.out)⟩⟩
     case round =>
      clear H'
      (try clear c14); (try clear c14b0); (try clear hcz12_0); (try clear hcz12_1); (try clear hcz12_2); (try clear hfz12_0); (try clear hfz12_1); (try clear hfz12_2)
      obtain ⟨x5_2, x1001_2, x185002_2, u185002, rfl, HA, HK2, HO_185001, HO_185002, BK178, BK184, HI0, HK, HB⟩ := hrel
      cases gk with
      | zero => exact absurd HA.out (by simp [spec_l3Draw.l1])
      | succ k2 =>
       have H := HA.out
       clear HA
       simp only [spec_l3Draw.l1] at H
       by_cases c33 : x5_2 > 0
       · rw [if_pos c33] at H
         have c33b0 : decide (0 < x5_2) = true := dt c33
         clear c33
         obtain ⟨y202, hy202⟩ : ∃ y_ : List Int, y_ = (([1, 50, 70000] : List Int)) := ⟨_, rfl⟩
         replace H : ((spec_l1Pick.f s0_0 x1001_2 y202).bind fun bt205 => ((spec_l2Draw.f k2 s0_0 bt205.2).bind fun bt207 => (if x185002_2.length < 4398046511104 then (spec_l3Draw.l1 k2 (wrap64 (x5_2 - 1)) s0_0 bt207.2 t182 x185001_1 (x185002_2 ++ [(⟨bt205.1, bt207.1⟩ : S86)])) else (none)))) = some (r1, r2, r3, r4) := by first | (rw [hy202]; with_reducible exact H) | (have H2_ := (Option.bind_some _ _).symm.trans H; rw [hy202]; with_reducible exact H2_) | (have H2_ := (Option.bind_some _ _).symm.trans H; with_reducible exact H2_) | with_reducible exact H | (rw [hy202]; exact H) | exact H
         have Ny202 := am hy202; clear hy202
         obtain ⟨⟨t205, t206⟩, A340, H⟩ := bO H
         replace H : ((spec_l2Draw.f k2 s0_0 t206).bind fun bt207 => (if x185002_2.length < 4398046511104 then (spec_l3Draw.l1 k2 (wrap64 (x5_2 - 1)) s0_0 bt207.2 t182 x185001_1 (x185002_2 ++ [(⟨t205, bt207.1⟩ : S86)])) else (none))) = some (r1, r2, r3, r4) := H
         have A34 := am A340; clear A340
         obtain ⟨⟨t207, t210⟩, A350, H⟩ := bO H
         replace H : (if x185002_2.length < 4398046511104 then (spec_l3Draw.l1 k2 (wrap64 (x5_2 - 1)) s0_0 t210 t182 x185001_1 (x185002_2 ++ [(⟨t205, t207⟩ : S86)])) else (none)) = some (r1, r2, r3, r4) := H
         have A35 := am A350; clear A350
         by_cases c36 : x185002_2.length < 4398046511104
         · rw [if_pos c36] at H
           have LMc36 := am c36; clear c36
           obtain ⟨y211, hy211⟩ : ∃ y_ : List (S86), y_ = (x185002_2 ++ [(⟨t205, t207⟩ : S86)]) := ⟨_, rfl⟩
           replace H : (spec_l3Draw.l1 k2 (wrap64 (x5_2 - 1)) s0_0 t210 t182 x185001_1 y211) = some (r1, r2, r3, r4) := by first | (rw [hy211]; with_reducible exact H) | (have H2_ := (Option.bind_some _ _).symm.trans H; rw [hy211]; with_reducible exact H2_) | (have H2_ := (Option.bind_some _ _).symm.trans H; with_reducible exact H2_) | with_reducible exact H | (rw [hy211]; exact H) | exact H
           have Ny211 := am hy211; clear hy211
           have H' := am H
           clear H
           try go_wp2
           have n_ := t7 (Kd.S_drew HO_185001.out) (Kd.S_drew HO_185002.out) (blk_drew BK178.out) (blk_drew BK184.out) (IsS129.drew HI0.out) (keep_drew HK.out) (below_drew1 HB.out)
           clear HO_185001 HO_185002 BK178 BK184 HI0 HK HB; obtain ⟨HO_185001, HO_185002, BK178, BK184, HI0, HK, HB⟩ := n_
           refine start_ (n := 12) (S := fun w' => w'.cell? ⟨gb184, 0, none⟩ = some (.int .i64 t182) ∧ w'.cell? ⟨gb184, 1, none⟩ = some (u185001) ∧ w'.cell? ⟨gb184, 2, none⟩ = some (u185002)) (ds := [11]) #[false, false, false, false, false, false, false, false, false, false, false, false] (by kernel_rfl) rfl rfl ⟨(blk_cell BK184.out 0).trans rfl, (blk_cell BK184.out 1).trans rfl, (blk_cell BK184.out 2).trans rfl⟩ (fun hHeld => ?_); refine with_tabW spec_l3Draw.tab9 spec_l3Draw.bits9 (fun HT_ HW_ => ?_)
           generalize wr.drew = w37 at HO_185001 HO_185002 BK178 BK184 HI0 HK HB hHeld ⊢
           refine pure_ (i := 0) (N := some 38) (v := ?_) (a' := ?_) #[true, false, false, false, false, false, false, false, false, false, false, false] rfl rfl (any_of HT_.out (by kernel_rfl)) (fun _ _ _ h => h) (Or.inl ⟨by rfl, ?_⟩) ?_ ?_
           rotate_left
           · intro w'
             go_simp
             with_reducible rfl
           rotate_left
           · simp only [Act.put, List.setIfInBounds_toArray, List.set_cons_zero, List.set_cons_succ, i64_w, i32_w]
             rfl
           refine pure_ (i := 2) (N := some 40) (v := ?_) (a' := ?_) #[true, false, true, false, false, false, false, false, false, false, false, false] rfl rfl (any_of HT_.out (by kernel_rfl)) (fun _ _ _ h => h) (Or.inl ⟨by rfl, ?_⟩) ?_ ?_
           rotate_left
           · intro w'
             go_simp
             with_reducible rfl
           rotate_left
           · simp only [Act.put, List.setIfInBounds_toArray, List.set_cons_zero, List.set_cons_succ, i64_w, i32_w]
             rfl
           refine pure_ (i := 5) (N := some 43) (v := ?_) (a' := ?_) #[true, false, true, false, false, true, false, false, false, false, false, false] rfl rfl (any_of HT_.out (by kernel_rfl)) (fun _ _ _ h => h) (Or.inl ⟨by rfl, ?_⟩) ?_ ?_
           rotate_left
           · intro w'
             go_simp
             with_reducible rfl
           rotate_left
           · simp only [Act.put, List.setIfInBounds_toArray, List.set_cons_zero, List.set_cons_succ, i64_w, i32_w]
             rfl
           refine take_ (i := 1) (N := some 39) (v := ?_) (a' := ?_) #[true, true, true, false, false, true, false, false, false, false, false, false] rfl rfl (take_ofW HT_.out HW_.out (by kernel_rfl)) (fun _ _ _ h => h) (Or.inl ⟨by rfl, ?_⟩) hHeld ?_ ?_
           rotate_left
           · rintro w' ⟨s0, s1, s2⟩
             go_simp
             with_reducible rfl
           rotate_left
           · simp only [Act.put, List.setIfInBounds_toArray, List.set_cons_zero, List.set_cons_succ, i64_w, i32_w]
             rfl
           refine one_ (i := 3) (N := some 41) #[true, true, true, true, false, true, false, false, false, false, false, false] rfl rfl (one_of HT_.out (by kernel_rfl)) (by decide) (fun K hK => ?_)
           refine Kd.R_lit_step (Kd.int .i64) _ 2 ?hg (N := 41) ?hd (xs := ([1, 50, 70000] : List Int)) (inner := [.int .i64 1, .int .i64 50, .int .i64 70000]) (ok := fun _ => True) (okp := fun _ => True) ?hr ?hp (fun _ hk => hk) trivial (Below.refl _ _) (Nat.le_refl _) (by simp) ?_; (case hd => rfl); (case hg => rfl); (case hr => first | (go_simp; done) | (go_simp; rfl)); (case hp => exact (Reps.one (show Kd.M (Kd.int .i64) _ _ _ 1 [.int .i64 1] from rfl) (Reps.one (show Kd.M (Kd.int .i64) _ _ _ 50 [.int .i64 50] from rfl) (Reps.one (show Kd.M (Kd.int .i64) _ _ _ 70000 [.int .i64 70000] from rfl) (Reps.none _ _)))))
           intro v203 w38 ho39 hb hg_ hnew_
           clear hg_ hnew_
           (first | rw [← Ny202.out] at ho39 | (simp only [Int.reduceToNat] at ho39; rw [← Ny202.out] at ho39))
           have n_ := t8 (Kd.S_elder' zd20 (rB ho39) hb) (Kd.S_elder' zd41 (rB ho39) hb) (rL ho39 (keep_size (w := w) (g := g) (row := none) zd12)) (blk_below (g := gb178) (o := .cells #[.int .i64 0, .slice none 0 0, .slice none 0 0] 27 (0, 0)) (pK BK178) hb) (blk_below (g := gb184) (o := .cells #[.int .i64 t182, u185001, u185002] 27 (0, 0)) (pK BK184) hb) (IsS129.below zd16 hb) (KeepBut.trans zd12 (KeepBut.of_below hb g none) (.inl rfl)) (bz_ zd15 hb)
           clear HO_185001 HO_185002 BK178 BK184 HI0 HK HB; obtain ⟨HO_185001, HO_185002, HO204, BK178, BK184, HI0, HK, HB⟩ := n_; clear hb ho39
           obtain ⟨Ao40, co40, eo40⟩ := rS HO204.out
           (first | subst eo40 | (injection eo40 with f1_ f2_ f3_; have f4_ := f1_.symm; have f5_ := f3_.symm; clear f1_ f2_ f3_; subst f4_; subst f5_))
           refine hK.out _ _ ⟨(blk_cell BK184.out 0).trans rfl, (blk_cell BK184.out 1).trans rfl, (blk_cell BK184.out 2).trans rfl⟩ (fun hHeld => ?_)
           clear hK K
           refine norm_ (a' := ?_) ?_ ?_
           rotate_left
           · show Act.put _ (some 41) _ = _
             simp only [Act.put, List.setIfInBounds_toArray, List.set_cons_zero, List.set_cons_succ, i64_w, i32_w]
             rfl
           refine one_ (i := 4) (N := some 42) #[true, true, true, true, true, true, false, false, false, false, false, false] rfl rfl (one_of HT_.out (by kernel_rfl)) (by decide) (fun K hK => ?_)
           refine goes_ Try.func78 (by kernel_rfl) rfl #[.pointer (some ⟨g, 0, none⟩), .slice Ao40 y202.length co40] (by rfl) rfl rfl pA ?_
           with_reducible refine (spec_l1Pick.calls g s0_0 x1001_2 _ _ y202 t205 t206 w0 _ ?side1 ?side2 ?side3 ?side4 ?side5 A34.out).mono ?_
           (case side1 => exact zd16)
           (case side2 => exact zd15)
           (case side3 => exact pC (rr HO204.out).2.2)
           (case side4 => exact (rr HO204.out).2.1)
           (case side5 => exact far_slice (IsS129.own_ne HI0.out HO204.out (by decide)))
           rintro e w41 ⟨rfl, hi, hb, hk⟩
           refine ⟨_, rfl, ?_⟩
           have n_ := t8 (Kd.S_mono (Kd.S_keep (IsS129.apartS (show IsS129 w0 _ g s0_0 x1001_2 from by repeat (first | (with_reducible first | exact HI0.out | apply IsS129.alloc | apply IsS129.drewN | apply IsS129.drew | apply IsS129.set_1 | refine IsS129.far ?_ NB0_178.out _ | refine IsS129.far ?_ NB0_184.out _) | exact HI0.out)) zd20 (by decide)) hk (fun _ h => h.2)) (fun _ h => h.1)) (Kd.S_mono (Kd.S_keep (IsS129.apartS (show IsS129 w0 _ g s0_0 x1001_2 from by repeat (first | (with_reducible first | exact HI0.out | apply IsS129.alloc | apply IsS129.drewN | apply IsS129.drew | apply IsS129.set_1 | refine IsS129.far ?_ NB0_178.out _ | refine IsS129.far ?_ NB0_184.out _) | exact HI0.out)) zd41 (by decide)) hk (fun _ h => h.2)) (fun _ h => h.1)) (KeepBut.blk hk (g' := gb178) (o := .cells #[.int .i64 0, .slice none 0 0, .slice none 0 0] 27 (0, 0)) (pK BK178) NB178_0.out (by simp)) (KeepBut.blk hk (g' := gb184) (o := .cells #[.int .i64 t182, u185001, u185002] 27 (0, 0)) (pK BK184) NB184_0.out (by simp)) (Kd.R_mono (Kd.R_keep (IsS129.apart (show IsS129 w0 _ g s0_0 x1001_2 from by repeat (first | (with_reducible first | exact HI0.out | apply IsS129.alloc | apply IsS129.drewN | apply IsS129.drew | apply IsS129.set_1 | refine IsS129.far ?_ NB0_178.out _ | refine IsS129.far ?_ NB0_184.out _) | exact HI0.out)) (pR HO204) (by decide)) hk (fun _ h => h.2)) (fun _ h => h.1)) (KeepBut.trans zd12 hk (.inl rfl)) (hb) (hi)
           clear HO_185001 HO_185002 BK178 BK184 HO204 HK HB HI0; obtain ⟨HO_185001, HO_185002, BK178, BK184, HO204, HK, HB, HI0⟩ := n_; (try clear hb); (try clear hb2); (try clear hk); (try clear hi)
           refine hK.out _ _ ⟨(blk_cell BK184.out 0).trans rfl, (blk_cell BK184.out 1).trans rfl, (blk_cell BK184.out 2).trans rfl⟩ (fun hHeld => ?_)
           clear hK K
           refine norm_ (a' := ?_) ?_ ?_
           rotate_left
           · show Act.put _ (some 42) _ = _
             simp only [Act.put, List.setIfInBounds_toArray, List.set_cons_zero, List.set_cons_succ, i64_w, i32_w]
             rfl
           refine one_ (i := 6) (N := some 44) #[true, true, true, true, true, true, true, false, false, false, false, false] rfl rfl (one_of HT_.out (by kernel_rfl)) (by decide) (fun K hK => ?_)
           refine goes_ Try.func128 (by kernel_rfl) rfl #[.pointer (some ⟨g, 0, none⟩)] (by rfl) rfl rfl pA ?_
           with_reducible refine (spec_l2Draw.calls k2 g s0_0 t206 t207 t210 w0 _ ?side1 ?side2 A35.out).mono ?_
           (case side1 => exact zd16)
           (case side2 => exact zd15)
           rintro e w42 ⟨v208, rfl, ho0, hi, hb, hk⟩
           refine ⟨_, rfl, ?_⟩
           have n_ := t9 (Kd.S_mono (Kd.S_told (Kd.S_oldK (IsS129.apartS (show IsS129 w0 _ g s0_0 t206 from by repeat (first | (with_reducible first | exact HI0.out | apply IsS129.alloc | apply IsS129.drewN | apply IsS129.drew | apply IsS129.set_1 | refine IsS129.far ?_ NB0_178.out _ | refine IsS129.far ?_ NB0_184.out _) | exact HI0.out)) zd20 (by decide)) hk) (rB ho0)) (fun _ h_ => h_.1)) (Kd.S_mono (Kd.S_told (Kd.S_oldK (IsS129.apartS (show IsS129 w0 _ g s0_0 t206 from by repeat (first | (with_reducible first | exact HI0.out | apply IsS129.alloc | apply IsS129.drewN | apply IsS129.drew | apply IsS129.set_1 | refine IsS129.far ?_ NB0_178.out _ | refine IsS129.far ?_ NB0_184.out _) | exact HI0.out)) zd41 (by decide)) hk) (rB ho0)) (fun _ h_ => h_.1)) (KeepBut.blk hk (g' := gb178) (o := .cells #[.int .i64 0, .slice none 0 0, .slice none 0 0] 27 (0, 0)) (pK BK178) NB178_0.out (by simp)) (KeepBut.blk hk (g' := gb184) (o := .cells #[.int .i64 t182, u185001, u185002] 27 (0, 0)) (pK BK184) NB184_0.out (by simp)) (Kd.R_mono (Kd.R_told (Kd.R_oldK (IsS129.apart (show IsS129 w0 _ g s0_0 t206 from by repeat (first | (with_reducible first | exact HI0.out | apply IsS129.alloc | apply IsS129.drewN | apply IsS129.drew | apply IsS129.set_1 | refine IsS129.far ?_ NB0_178.out _ | refine IsS129.far ?_ NB0_184.out _) | exact HI0.out)) (pR HO204) (by decide)) hk) (rB ho0)) (fun _ h_ => h_.1)) (rL (rW ho0 (Kd.R_lt (pR HO204))) (keep_size (w := w) (g := g) (row := none) zd12)) (KeepBut.trans zd12 hk (.inl rfl)) (hb) (hi)
           clear HO_185001 HO_185002 BK178 BK184 HO204 HK HB HI0; obtain ⟨HO_185001, HO_185002, BK178, BK184, HO204, HO209, HK, HB, HI0⟩ := n_; (try clear hb); (try clear hb2); (try clear hk); (try clear hi); (try clear ho0)
           obtain ⟨Ao43, co43, eo43⟩ := rS HO209.out
           (first | subst eo43 | (injection eo43 with f1_ f2_ f3_; have f4_ := f1_.symm; have f5_ := f3_.symm; clear f1_ f2_ f3_; subst f4_; subst f5_))
           refine hK.out _ _ ⟨(blk_cell BK184.out 0).trans rfl, (blk_cell BK184.out 1).trans rfl, (blk_cell BK184.out 2).trans rfl⟩ (fun hHeld => ?_)
           clear hK K
           refine norm_ (a' := ?_) ?_ ?_
           rotate_left
           · show Act.put _ (some 44) _ = _
             simp only [Act.put, List.setIfInBounds_toArray, List.set_cons_zero, List.set_cons_succ, i64_w, i32_w]
             rfl
           refine pure_ (i := 7) (N := some 45) (v := ?_) (a' := ?_) #[true, true, true, true, true, true, true, true, false, false, false, false] rfl rfl (any_of HT_.out (by kernel_rfl)) (fun _ _ _ h => h) (Or.inl ⟨by rfl, ?_⟩) ?_ ?_
           rotate_left
           · intro w'
             go_simp
             with_reducible rfl
           rotate_left
           · simp only [Act.put, List.setIfInBounds_toArray, List.set_cons_zero, List.set_cons_succ, i64_w, i32_w]
             rfl
           refine one_ (i := 8) (N := some 46) #[true, true, true, true, true, true, true, true, true, false, false, false] rfl rfl (one_of HT_.out (by kernel_rfl)) (by decide) (fun K hK => ?_)
           refine value_ (w1 := ?_) (v := ?_) (by rfl) rfl ?_ ?_
           rotate_left 2
           · go_simp
             constructor
             · rfl
             · rfl
           refine hK.out _ _ ⟨(blk_cell (blk_alloc BK184.out _) 0).trans rfl, (blk_cell (blk_alloc BK184.out _) 1).trans rfl, (blk_cell (blk_alloc BK184.out _) 2).trans rfl⟩ (fun hHeld => ?_)
           clear hK K
           refine norm_ (a' := ?_) ?_ ?_
           rotate_left
           · show Act.put _ (some 46) _ = _
             simp only [Act.put, List.setIfInBounds_toArray, List.set_cons_zero, List.set_cons_succ, i64_w, i32_w]
             rfl
           refine one_ (i := 9) (N := some 47) #[true, true, true, true, true, true, true, true, true, true, false, false] rfl rfl (one_of HT_.out (by kernel_rfl)) (by decide) (fun K hK => ?_)
           refine Kd.S_append_step k86 w.heap.size (by rfl) (.tmp 39) (.tmp 46) 25 86 (.agg #[(.int .i64 0), (.slice none 0 0)]) 32 rfl Try.underlying25 info86 rfl (by decide) (by omega) u185002 x185002_2 (⟨t205, t207⟩ : S86) [.int .i64 t205, .slice Ao43 t207.length co43] (fun k_ => some k_ ≠ (.slice Ao40 y202.length co40 : Value).ownBlock) (fun k_ => some k_ = (.slice Ao43 t207.length co43 : Value).ownBlock) rfl rfl ?aP (fun k_ hk_ => ((Kd.R_mono (ok' := fun k_ => ((fun k_ => some k_ ≠ (.slice Ao40 y202.length co40 : Value).ownBlock)) k_ ∧ some k_ ≠ (u185002 : Value).ownBlock) (Kd.R_apart' (HO209.out) (Kd.S_typed HO_185002.out) (by decide)) (fun k_ hk => ⟨hk.1.2, hk.2⟩))).1 k_ hk_.symm) ?aF ?aO (Below.refl _ _) ?aS ?aL ?_
           (case aP => exact k86_mkM _ _ _ (⟨t205, t207⟩ : S86) (Kd.R_mono (Kd.R_tight rfl (Kd.R_mono (ok' := fun k_ => ((fun k_ => some k_ ≠ (.slice Ao40 y202.length co40 : Value).ownBlock)) k_ ∧ some k_ ≠ (u185002 : Value).ownBlock) (Kd.R_apart' (HO209.out) (Kd.S_typed HO_185002.out) (by decide)) (fun k_ hk => ⟨hk.1.2, hk.2⟩))) (fun _ h_ => h_)))
           (case aF => exact (fun k_ hk => Kd.fresh' (Kd.R_lt (pR HO204)) k_ hk))
           (case aO => exact (by (with_reducible repeat (first | apply Kd.S_alloc | apply Kd.S_drewN | apply Kd.S_drew)); exact Kd.S_mono HO_185002.out (fun k_ hk => ⟨hk.1.2, fun e_ => hk.2 e_⟩)))
           (case aS => exact (keep_size (w := w) (g := g) (row := none) zd12))
           (case aL => have := LMc36.out; omega)
           intro v212 w44 ho hb hg hat
           rw [← Ny211.out] at ho
           have n_ := t8 (Kd.S_over' zd20 (Kd.S_typed zd41) (by decide) hg) (blk_grown (g := gb178) (o := .cells #[.int .i64 0, .slice none 0 0, .slice none 0 0] 27 (0, 0)) (pK BK178) hg (Kd.S_ne HO_185002.out BK178.out (by decide))) (blk_grown (g := gb184) (o := .cells #[.int .i64 t182, u185001, u185002] 27 (0, 0)) (pK BK184) hg (Kd.S_ne HO_185002.out BK184.out (by decide))) (IsS129.grown zd16 hg (IsS129.own_neS HI0.out HO_185002.out (by decide))) (Kd.R_over' (pR HO204) (Kd.S_typed zd41) (by decide) hg) (below_weaken zd15 HL.out hb) (KeepBut.trans zd12 (KeepBut.of_grown hg g) (Kd.S_base2 HO_185002.out)) (ho)
           clear HO_185001 BK178 BK184 HI0 HO204 HB HK HO_185002 HO209; obtain ⟨HO_185001, BK178, BK184, HI0, HO204, HB, HK, HO213⟩ := n_; clear ho hb hg hat
           obtain ⟨Ao45, co45, eo45⟩ := Kd.S_slice HO213.out
           (first | subst eo45 | (injection eo45 with f1_ f2_ f3_; have f4_ := f1_.symm; have f5_ := f3_.symm; clear f1_ f2_ f3_; subst f4_; subst f5_))
           refine hK.out _ _ ⟨(blk_cell BK184.out 0).trans rfl, (blk_cell BK184.out 1).trans rfl, (blk_cell BK184.out 2).trans rfl⟩ (fun hHeld => ?_)
           clear hK K
           refine norm_ (a' := ?_) ?_ ?_
           rotate_left
           · show Act.put _ (some 47) _ = _
             simp only [Act.put, List.setIfInBounds_toArray, List.set_cons_zero, List.set_cons_succ, i64_w, i32_w]
             rfl
           refine pure_ (i := 10) (N := some 48) (v := ?_) (a' := ?_) #[true, true, true, true, true, true, true, true, true, true, true, false] rfl rfl (any_of HT_.out (by kernel_rfl)) (fun _ _ _ h => h) (Or.inl ⟨by rfl, ?_⟩) ?_ ?_
           rotate_left
           · intro w'
             go_simp
             with_reducible rfl
           rotate_left
           · simp only [Act.put, List.setIfInBounds_toArray, List.set_cons_zero, List.set_cons_succ, i64_w, i32_w]
             rfl
           refine last_ (i := 11) (N := none) #[true, true, true, true, true, true, true, true, true, true, true, true] rfl rfl (one_of HT_.out (by kernel_rfl)) (by decide) (fun K hK => ?_)
           have hs46 : w44.cell? ⟨gb184, 2, none⟩ = some (u185002) := (blk_cell BK184.out 2).trans rfl
           have hfs46 := blk_frozen BK184.out 2
           have hns46_0 := NB178_184.out
           have hms46_0 := NB184_178.out
           refine skip_ (w1 := ?_) (by rfl) rfl ?_ ?_
           rotate_left
           · go_simp
             rfl
           refine hK.out _ _ ?_
           clear hK K
           refine done_ (done_of HT_.out (by kernel_rfl)) ?_
           try go_wp2
           go_roundg k2
           case measure => have := HK1.out; have := HK2.out; omega
           case rel => exact ⟨(wrap64 (x5_2 - 1)), (t210), (y211), (.slice Ao45 y211.length co45), pF, H', ⟨by have := HK1.out; have := HK2.out; omega⟩, ⟨by (with_reducible repeat (first | apply Kd.S_alloc | apply Kd.S_drewN | apply Kd.S_drew)); exact Kd.S_mono (Kd.S_far (p := ⟨gb184, 2, none⟩) (Kd.S_types HO_185001.out BK184.out (by decide)) (fun _ hk => hk.2) (.slice Ao45 y211.length co45)) (fun _ hk => trivial)⟩, ⟨by (with_reducible repeat (first | apply Kd.S_alloc | apply Kd.S_drewN | apply Kd.S_drew)); exact Kd.S_mono (Kd.S_far (p := ⟨gb184, 2, none⟩) (Kd.S_types HO213.out BK184.out (by decide)) (fun _ hk => hk.2) (.slice Ao45 y211.length co45)) (fun _ hk => trivial)⟩, ⟨by (with_reducible repeat (first | refine blk_drewN ?_ _ | refine blk_drew ?_ | refine blk_alloc ?_ _)); refine blk_far ?_ NB178_184.out _; (with_reducible repeat (first | refine blk_drewN ?_ _ | refine blk_drew ?_ | refine blk_alloc ?_ _)); exact BK178.out⟩, ⟨by (with_reducible repeat (first | refine blk_drewN ?_ _ | refine blk_drew ?_ | refine blk_alloc ?_ _)); refine blk_put (cs := #[.int .i64 t182, u185001, u185002]) ?_ 2 _ rfl; (with_reducible repeat (first | refine blk_drewN ?_ _ | refine blk_drew ?_ | refine blk_alloc ?_ _)); exact BK184.out⟩, ⟨by repeat (first | (with_reducible first | exact HI0.out | apply IsS129.alloc | apply IsS129.drewN | apply IsS129.drew | apply IsS129.set_1 | refine IsS129.far ?_ NB0_178.out _ | refine IsS129.far ?_ NB0_184.out _) | exact HI0.out)⟩, ⟨by repeat (first | (with_reducible first | exact HK.out | apply KeepBut.set_ | apply keep_drewN | apply keep_drew | apply keep_alloc | refine keep_far ?_ GW178.out _ | refine keep_far ?_ GW184.out _) | exact HK.out)⟩, ⟨by repeat (first | (with_reducible first | exact HB.out | apply below_alloc | apply pw_below_drewN | apply below_drew1 | refine below_set ?_ (IsS129.ge HI0.out) | refine below_set ?_ GE178.out | refine below_set ?_ GE184.out) | exact HB.out)⟩⟩
         · rw [if_neg c36] at H
           exact absurd H (by simp)
       · rw [if_neg c33] at H
         have c33b0 : decide (0 < x5_2) = false := decide_eq_false c33
         clear c33
         simp only [Option.some.injEq, Prod.mk.injEq] at H
         obtain ⟨rfl, rfl, rfl, rfl⟩ := H
         have hnb47 := NB184_178.out
         have hnc47 := NB178_184.out
         have hnb48 := NB184_0.out
         have hnc48 := NB0_184.out
         obtain ⟨hcz49_0, hcz49_1, hcz49_2, hfz49_0, hfz49_1, hfz49_2⟩ := bx3 BK184
         have hnb50 := NB178_0.out
         have hnc50 := NB0_178.out
         obtain ⟨hcz51_0, hcz51_1, hcz51_2, hfz51_0, hfz51_1, hfz51_2⟩ := bx3 BK178
         obtain ⟨Ao52, co52, eo52⟩ := Kd.S_slice HO_185001.out
         subst eo52
         obtain ⟨Ao53, co53, eo53⟩ := Kd.S_slice HO_185002.out
         subst eo53
         go_wp2
         refine bodyPost_ret (results_cell_row rfl _ _ gb178 27 #[.int .i64 t182, .slice Ao52 x185001_1.length co52, .slice Ao53 x185002_2.length co53] (0, 0) _ rfl (by (with_reducible repeat (first | refine blk_drewN ?_ _ | refine blk_drew ?_ | refine blk_alloc ?_ _)); refine blk_put (cs := #[.int .i64 t182, .slice Ao52 x185001_1.length co52, .slice none 0 0]) ?_ 2 _ rfl; (with_reducible repeat (first | refine blk_drewN ?_ _ | refine blk_drew ?_ | refine blk_alloc ?_ _)); refine blk_put (cs := #[.int .i64 t182, .slice none 0 0, .slice none 0 0]) ?_ 1 _ rfl; (with_reducible repeat (first | refine blk_drewN ?_ _ | refine blk_drew ?_ | refine blk_alloc ?_ _)); refine blk_put (cs := #[.int .i64 0, .slice none 0 0, .slice none 0 0]) ?_ 0 _ rfl; (with_reducible repeat (first | refine blk_drewN ?_ _ | refine blk_drew ?_ | refine blk_alloc ?_ _)); exact BK178.out) Try.underlying27 rfl (by kernel_rfl)) rfl ?_
         exact ⟨_, _, pE, by (with_reducible repeat (first | apply Kd.S_alloc | apply Kd.S_drewN | apply Kd.S_drew)); exact Kd.S_mono (Kd.S_far (p := ⟨gb178, 2, none⟩) (Kd.S_far (p := ⟨gb178, 1, none⟩) (Kd.S_far (p := ⟨gb178, 0, none⟩) (Kd.S_types HO_185001.out BK178.out (by decide)) (fun _ hk => hk.2) (.int .i64 t182)) (fun _ hk => hk.2) (.slice Ao52 x185001_1.length co52)) (fun _ hk => hk.2) (.slice Ao53 x185002_2.length co53)) (fun _ hk => trivial), by (with_reducible repeat (first | apply Kd.S_alloc | apply Kd.S_drewN | apply Kd.S_drew)); exact Kd.S_mono (Kd.S_far (p := ⟨gb178, 2, none⟩) (Kd.S_far (p := ⟨gb178, 1, none⟩) (Kd.S_far (p := ⟨gb178, 0, none⟩) (Kd.S_types HO_185002.out BK178.out (by decide)) (fun _ hk => hk.2) (.int .i64 t182)) (fun _ hk => hk.2) (.slice Ao52 x185001_1.length co52)) (fun _ hk => hk.2) (.slice Ao53 x185002_2.length co53)) (fun _ hk => trivial), zd16, zd15, zd12⟩
end Go.Proofs.Ythjlbpgiaehjnaa.QFnNames
