-- written by this session's program (wip/tools/myprint.py)
import Derived.Test.YthjlbpgiaehjnaaQFnNamesx0
import Derived.Test.YthjlbpgiaehjnaaQFnNamesx1
import Derived.Test.YthjlbpgiaehjnaaQFnNamesx5
import Derived.Test.YthjlbpgiaehjnaaQFnNamesx7
import Derived.Test.YthjlbpgiaehjnaaQFnNamesx10
import Derived.Test.YthjlbpgiaehjnaaQFnNamesx14
-- squeezed
namespace Go.Proofs.Ythjlbpgiaehjnaa.QFnNames
open Go.RowKit Go.Proofs.YthjlbpgiaehjnaaW.PrintWords Go.Proofs.YthjlbpgiaehjnaaW.PrintLast Go.Proofs.YthjlbpgiaehjnaaW.PrintMore
attribute [local go_sem] max2_int min2_int max_two min_two max_three min_three max_four min_four   -- for this text's walks alone
set_option linter.unusedVariables false
set_option linter.unusedSimpArgs false
set_option maxHeartbeats 8000000
set_option maxRecDepth 100000
def laws_FnNames.l0 : Nat → Int → Int → List (S34) → List (S86) → Int → Int → Int → List (S34) → List (S86) → Option (Bool)
 | 0, _, _, _, _, _, _, _, _, _ => none
 | k + 1, x6, x584000, x584001, x584002, x587000, x587001, x590000, x590001, x590002 => if x6 < (x584001.length : Int) then (if 0 ≤ x6 then (if x590001.length < 3518437208883 then (laws_FnNames.l0 k (wrap64 (x6 + 1)) x584000 x584001 x584002 x587000 x587001 x590000 (x590001 ++ [(⟨(rd_T34 x584001 x6).f0, (rd_T34 x584001 x6).f1, ([] : List Int)⟩ : S34)]) x590002) else (none)) else (none)) else ((impl_TxSum.f k x590000 x590001 x590002).bind fun bt595 => (if bt595.1 = 0 then (if bt595.2 = x587001 then ((impl_PackTx.f k x590000 x590001 x590002).bind fun bt598 => ((impl_SumOf.f k bt598.2).bind fun bt602 => (if x587001 = bt602.2 then ((spec_TxSum.f k x584000 x584001 x584002).bind fun bt604 => (if x587001 = bt604.2 then ((impl_TxFault.f k x584000 x584001 x584002).bind fun t606 => (some (t606 == 0))) else (none))) else (none)))) else (none)) else (none)))
def laws_FnNames.f (k : Nat) (l0 : List Int) : Option (Bool) := (laws_lwBig.f l0).bind fun t575 => (if t575 = true then (some true) else ((spec_DrawTxSum.f k l0).bind fun bt576 => ((impl_TxSum.f k bt576.1 bt576.2.1 bt576.2.2).bind fun bt584 => (if bt584.1 = 0 then (laws_FnNames.l0 k 0 bt576.1 bt576.2.1 bt576.2.2 bt584.1 bt584.2 bt576.1 ([] : List (S34)) bt576.2.2) else ((spec_TxSum.f k bt576.1 bt576.2.1 bt576.2.2).bind fun bt587 => (some (bt587.1 == bt584.1)))))))
theorem laws_FnNames.mono_l : ∀ k, (∀ y0 y1 y2 y3 y4 y5 y6 y7 y8, LeO (laws_FnNames.l0 k y0 y1 y2 y3 y4 y5 y6 y7 y8) (laws_FnNames.l0 (k + 1) y0 y1 y2 y3 y4 y5 y6 y7 y8))
 | 0 => fun _ _ _ _ _ _ _ _ _ r h => by simp [laws_FnNames.l0] at h
 | k + 1 => by
  have ih0 := laws_FnNames.mono_l k
  · intro y0 y1 y2 y3 y4 y5 y6 y7 y8
    unfold laws_FnNames.l0
    repeat' with_reducible first | exact ih0 _ _ _ _ _ _ _ _ _ | exact impl_PackTx.mono _ _ _ _ | exact impl_SumOf.mono _ _ | exact impl_TxFault.mono _ _ _ _ | exact impl_TxSum.mono _ _ _ _ | exact spec_DrawTxSum.mono _ _ | exact spec_TxSum.mono _ _ _ _ | exact LeO.refl _ | exact LeO.none _ | refine LeO.ite ?_ ?_ | refine LeO.bind ?_ (fun _ => ?_)
theorem laws_FnNames.mono : ∀ a0 k, LeO (laws_FnNames.f k a0) (laws_FnNames.f (k + 1) a0) := by
 intro a0 k
 have ih0 := laws_FnNames.mono_l k
 unfold laws_FnNames.f
 repeat' with_reducible first | exact ih0 _ _ _ _ _ _ _ _ _ | exact impl_PackTx.mono _ _ _ _ | exact impl_SumOf.mono _ _ | exact impl_TxFault.mono _ _ _ _ | exact impl_TxSum.mono _ _ _ _ | exact spec_DrawTxSum.mono _ _ | exact spec_TxSum.mono _ _ _ _ | exact LeO.refl _ | exact LeO.none _ | refine LeO.ite ?_ ?_ | refine LeO.bind ?_ (fun _ => ?_)
def laws_FnNames.T11 : Bool × List (List Nat × List Nat) := (true, [([], []), ([0], [0]), ([], []), ([2], [2]), ([], []), ([3, 4], [3, 4]), ([5], [5]), ([6], [6]), ([], []), ([8], [8]), ([], []), ([9, 10], [9, 10]), ([11], [11]), ([12], [12]), ([7, 13], [7, 13]), ([14], [14]), ([1, 15], [1, 15]), ([0, 1, 2, 3, 4, 5, 6, 7, 8, 9, 10, 11, 12, 13, 14, 15, 16], []), ([17, 16, 16, 0, 1, 2, 3, 4, 5, 6, 7, 8, 9, 10, 11, 12, 13, 14, 15, 16], [16, 17])])
def laws_FnNames.B11 : List Nat := [0, 1, 0, 4, 0, 28, 60, 124, 0, 256, 0, 1792, 3840, 7936, 16380, 32764, 65535, 131071, 262143]
theorem laws_FnNames.tab11 : rtab .any (opsOf Try.f3 11) = laws_FnNames.T11 := by kernel_rfl
theorem laws_FnNames.bits11 : waitsOk laws_FnNames.T11.2 laws_FnNames.B11 = true := by kernel_rfl
def laws_FnNames.T13 : Bool × List (List Nat × List Nat) := (true, [([], []), ([0], [0]), ([1], [1]), ([2], [2]), ([3], [3]), ([4, 3], [3, 4]), ([3], [3]), ([6, 3], [3, 6]), ([5, 7, 3], [3, 5, 7]), ([3, 8], [3, 8]), ([9, 3], [9]), ([10], [10]), ([11, 10], [10, 11]), ([10], [10]), ([13, 10, 10], [10, 13]), ([14, 10], [10, 14]), ([15, 14, 10], [10, 15]), ([16, 10], [10, 16]), ([12, 17, 10], [10, 12, 17]), ([10, 18], [10, 18]), ([19, 16], [19]), ([20], [20]), ([21, 20], [20, 21]), ([20], [20]), ([23, 20, 20], [20, 23]), ([24, 20], [20, 24]), ([22, 25, 20], [20, 22, 25]), ([20, 26], [20, 26]), ([27, 24], [27]), ([28], [28]), ([29, 28, 28], [28, 29]), ([30, 28], [28, 30]), ([28, 31], [28, 31]), ([32, 30, 0, 1, 2, 3, 4, 5, 6, 7, 8, 9, 10, 11, 12, 13, 14, 15, 16, 17, 18, 19, 20, 21, 22, 23, 24, 25, 26, 27, 28, 29, 30, 31, 32], [32])])
def laws_FnNames.B13 : List Nat := [0, 1, 3, 7, 15, 31, 15, 79, 255, 511, 1023, 2047, 4095, 2047, 10239, 26623, 59391, 124927, 262143, 524287, 1048575, 2097151, 4194303, 2097151, 10485759, 27262975, 67108863, 134217727, 268435455, 536870911, 1073741823, 2147483647, 4294967295, 8589934591]
theorem laws_FnNames.tab13 : rtab .any (opsOf Try.f3 13) = laws_FnNames.T13 := by kernel_rfl
theorem laws_FnNames.bits13 : waitsOk laws_FnNames.T13.2 laws_FnNames.B13 = true := by kernel_rfl
theorem laws_FnNames.calls (k : Nat) (A0 : Option Addr) (c0 : Nat) (l0 : List Int) (r : Bool) (w : World) (hr0 : Kd.C (Kd.int .u8) w A0 l0.length l0) (hc0 : l0.length ≤ c0) (h : laws_FnNames.f k l0 = some r) :
 Calls Try.prog 3 #[.slice A0 l0.length c0] w fun e w' => e = .returned (.bool r) ∧ Below w.heap.size w w' := by
 have hfd30_0 : ∀ (c0 c1 : Value) (w : World), (Instr.field 30 (.agg #[c0, c1]) 0).run Try.prog w = .ok c0 w := by intro c0 c1 w; kernel_rfl
 have hfd37_1 : ∀ (c0 c1 : Value) (w : World), (Instr.field 37 (.agg #[c0, c1]) 1).run Try.prog w = .ok c1 w := by intro c0 c1 w; kernel_rfl
 have hfd30_1 : ∀ (c0 c1 : Value) (w : World), (Instr.field 30 (.agg #[c0, c1]) 1).run Try.prog w = .ok c1 w := by intro c0 c1 w; kernel_rfl
 have hu27 := Try.underlying27
 have hu30 := Try.underlying30
 have hu34 := Try.underlying34
 have HR0 := am hr0; have HC0 := am hc0; clear hr0 hc0
 have HB := am (Below.refl w.heap.size w)
 have H : ((laws_lwBig.f l0).bind fun t575 => (if t575 = true then (some true) else ((spec_DrawTxSum.f k l0).bind fun bt576 => ((impl_TxSum.f k bt576.1 bt576.2.1 bt576.2.2).bind fun bt584 => (if bt584.1 = 0 then (laws_FnNames.l0 k 0 bt576.1 bt576.2.1 bt576.2.2 bt584.1 bt584.2 bt576.1 ([] : List (S34)) bt576.2.2) else ((spec_TxSum.f k bt576.1 bt576.2.1 bt576.2.2).bind fun bt587 => (some (bt587.1 == bt584.1)))))))) = some r := h
 clear h
 obtain ⟨t575, A20, H⟩ := bO H
 replace H : (if t575 = true then (some true) else ((spec_DrawTxSum.f k l0).bind fun bt576 => ((impl_TxSum.f k bt576.1 bt576.2.1 bt576.2.2).bind fun bt584 => (if bt584.1 = 0 then (laws_FnNames.l0 k 0 bt576.1 bt576.2.1 bt576.2.2 bt584.1 bt584.2 bt576.1 ([] : List (S34)) bt576.2.2) else ((spec_TxSum.f k bt576.1 bt576.2.1 bt576.2.2).bind fun bt587 => (some (bt587.1 == bt584.1))))))) = some r := H
 have A2 := am A20; clear A20
 by_cases c3 : t575 = true
 · subst c3
   have H1 : (some true) = some r := by rw [if_pos rfl] at H; exact H
   clear H; have H := H1; clear H1
   obtain rfl := sj H
   go_enter Try.func3, Try.ntmps3
   go_wp2_with (first | ((with_reducible refine gC (f := 10) rfl ?_); refine goesL_ (some 9) rfl rfl Try.func10 (by kernel_rfl) rfl #[.slice A0 l0.length c0] rfl pA ?_; (with_reducible refine (laws_lwBig.calls _ _ l0 true _ ?side1 ?side2 A2.out).mono ?_); (case side1 => exact pC HR0.out); (case side2 => exact HC0.out); rintro e w' ⟨rfl, ⟨nd, rfl⟩⟩; refine ⟨_, rfl, ?_⟩))
   go_ret
   exact ⟨pE, pB⟩
 · replace c3 := Bool.eq_false_iff.mpr c3
   subst c3
   have H1 : ((spec_DrawTxSum.f k l0).bind fun bt576 => ((impl_TxSum.f k bt576.1 bt576.2.1 bt576.2.2).bind fun bt584 => (if bt584.1 = 0 then (laws_FnNames.l0 k 0 bt576.1 bt576.2.1 bt576.2.2 bt584.1 bt584.2 bt576.1 ([] : List (S34)) bt576.2.2) else ((spec_TxSum.f k bt576.1 bt576.2.1 bt576.2.2).bind fun bt587 => (some (bt587.1 == bt584.1)))))) = some r := by rw [if_neg (show ¬ (false = true) by decide)] at H; exact H
   clear H; have H := H1; clear H1
   obtain ⟨⟨t576, t577, t580⟩, A40, H⟩ := bO H
   replace H : ((impl_TxSum.f k t576 t577 t580).bind fun bt584 => (if bt584.1 = 0 then (laws_FnNames.l0 k 0 t576 t577 t580 bt584.1 bt584.2 t576 ([] : List (S34)) t580) else ((spec_TxSum.f k t576 t577 t580).bind fun bt587 => (some (bt587.1 == bt584.1))))) = some r := H
   have A4 := am A40; clear A40
   obtain ⟨⟨t584, t585⟩, A50, H⟩ := bO H
   replace H : (if t584 = 0 then (laws_FnNames.l0 k 0 t576 t577 t580 t584 t585 t576 ([] : List (S34)) t580) else ((spec_TxSum.f k t576 t577 t580).bind fun bt587 => (some (bt587.1 == t584)))) = some r := H
   have A5 := am A50; clear A50
   by_cases c6 : t584 = 0
   · rw [if_pos c6] at H
     have c6b0 : (t584 == 0) = true := beq_iff_eq.mpr c6
     have c6b1 : (t584 != 0) = false := bne_eq_false_iff_eq.mpr c6
     clear c6
     have H' := am H
     clear H
     go_enter Try.func3, Try.ntmps3
     go_wp2_with (first | ((with_reducible refine gC (f := 10) rfl ?_); refine goesL_ (some 9) rfl rfl Try.func10 (by kernel_rfl) rfl #[.slice A0 l0.length c0] rfl pA ?_; (with_reducible refine (laws_lwBig.calls _ _ l0 false _ ?side1 ?side2 A2.out).mono ?_); (case side1 => exact pC HR0.out); (case side2 => exact HC0.out); rintro e w' ⟨rfl, ⟨nd, rfl⟩⟩; refine ⟨_, rfl, ?_⟩) | ((with_reducible refine gC (f := 11) rfl ?_); refine goesL_ (some 11) rfl rfl Try.func11 (by kernel_rfl) rfl #[.slice A0 l0.length c0] rfl pA ?_; (with_reducible refine (spec_DrawTxSum.calls k _ _ l0 t576 t577 t580 _ ?side1 ?side2 A4.out).mono ?_); (case side1 => exact pC HR0.out); (case side2 => exact HC0.out); rintro e w7 ⟨v578, v581, rfl, ho0, ho1, hb⟩; refine ⟨_, rfl, ?_⟩; have n_ := t3 (Kd.N_lower (Kd.N_mono (ok' := fun k_ => some k_ ≠ (v581 : Value).ownBlock) ho0 (fun k_ hk_ => hk_.2)) (bs_ pB)) (Kd.N_lower (Kd.N_mono (ok' := fun k_ => some k_ ≠ (v578 : Value).ownBlock) ho1 (fun k_ hk_ => hk_.2)) (bs_ pB)) (bz_ pB hb); clear HB; obtain ⟨HO579, HO582, HB⟩ := n_; (try clear hb); (try clear ho0); (try clear ho1)) | ((with_reducible refine gate_dst (N := 3) rfl ?_); refine box_event ?hg (N := 3) ?hd (cs := #[.int .i64 0, .slice none 0 0, .slice none 0 0]) (t := 27) ?hr ?_; (case hd => rfl); (case hg => rfl); (case hr => first | (go_simp; done) | (go_simp; rfl)); intro gb583 hg w8 hbox hb; have n_ := t6 (Kd.N_below (Kd.N_elderB zd43 gb583 (Nat.le_of_eq hg.symm)) hb) (Kd.N_below (Kd.N_elderB zd42 gb583 (Nat.le_of_eq hg.symm)) hb) (bz_ pB hb) (hbox) ((by rw [hg]; exact (bs_ pB) : w.heap.size ≤ gb583)) ((by rw [hg]; exact (bs_ pB) : w.heap.size ≤ gb583)); clear HO579 HO582 HB; obtain ⟨HO579, HO582, HB, BK583, GW583, GE583⟩ := n_; clear hb hbox hg; have hcz9_0 : w8.cell? ⟨gb583, 0, none⟩ = some (.int .i64 0) := (blk_cell BK583.out 0).trans rfl; have hcz9_1 : w8.cell? ⟨gb583, 1, none⟩ = some (.slice none 0 0) := (blk_cell BK583.out 1).trans rfl; have hcz9_2 : w8.cell? ⟨gb583, 2, none⟩ = some (.slice none 0 0) := (blk_cell BK583.out 2).trans rfl; have hfz9_0 := blk_frozen BK583.out 0; have hfz9_1 := blk_frozen BK583.out 1; have hfz9_2 := blk_frozen BK583.out 2; obtain ⟨Ao10, co10, eo10⟩ := Kd.N_slice HO579.out; subst eo10; obtain ⟨Ao11, co11, eo11⟩ := Kd.N_slice HO582.out; subst eo11) | ((with_reducible refine gC (f := 12) rfl ?_); refine goesL_ (some 13) rfl rfl Try.func12 (by kernel_rfl) rfl #[.agg #[.int .i64 t576, .slice Ao10 t577.length co10, .slice Ao11 t580.length co11]] rfl pA ?_; (with_reducible refine (impl_TxSum.calls k t576 _ _ t577 _ _ t580 t584 t585 _ ?side1 ?side2 ?side3 ?side4 A5.out).mono ?_); (case side1 => refine (Kd.N_reads' (e := 34) (base := w.heap.size) (ok := fun k_ => (some k_ ≠ (.slice Ao11 t580.length co11 : Value).ownBlock ∧ k_ ≠ gb583)) (n := t577.length) (c := co10) ?_).2.2; exact zd38); (case side2 => exact (Kd.N_reads' HO579.out).2.1); (case side3 => refine (Kd.N_reads' (e := 86) (base := w.heap.size) (ok := fun k_ => (some k_ ≠ (.slice Ao10 t577.length co10 : Value).ownBlock ∧ k_ ≠ gb583)) (n := t580.length) (c := co11) ?_).2.2; exact zd36); (case side4 => exact (Kd.N_reads' HO582.out).2.1); rintro e w12 ⟨rfl, hb⟩; refine ⟨_, rfl, ?_⟩; have n_ := t4 (Kd.N_below zd38 hb) (Kd.N_below zd36 hb) (blk_below (g := gb583) (o := .cells #[.int .i64 t576, .slice Ao10 t577.length co10, .slice Ao11 t580.length co11] 27 (0, 0)) (by (with_reducible repeat (first | refine blk_drewN ?_ _ | refine blk_drew ?_ | refine blk_alloc ?_ _)); refine blk_put (cs := #[.int .i64 t576, .slice Ao10 t577.length co10, .slice none 0 0]) ?_ 2 _ rfl; (with_reducible repeat (first | refine blk_drewN ?_ _ | refine blk_drew ?_ | refine blk_alloc ?_ _)); refine blk_put (cs := #[.int .i64 t576, .slice none 0 0, .slice none 0 0]) ?_ 1 _ rfl; (with_reducible repeat (first | refine blk_drewN ?_ _ | refine blk_drew ?_ | refine blk_alloc ?_ _)); refine blk_put (cs := #[.int .i64 0, .slice none 0 0, .slice none 0 0]) ?_ 0 _ rfl; (with_reducible repeat (first | refine blk_drewN ?_ _ | refine blk_drew ?_ | refine blk_alloc ?_ _)); exact BK583.out) hb) (bz_ pB hb); clear HO579 HO582 BK583 HB; obtain ⟨HO579, HO582, BK583, HB⟩ := n_; (try clear hb)) | ((with_reducible refine gate_dst (N := 4) rfl ?_); refine box_event ?hg (N := 4) ?hd (cs := #[.int .i64 0, .int .i64 0]) (t := 30) ?hr ?_; (case hd => rfl); (case hg => rfl); (case hr => first | (go_simp; done) | (go_simp; rfl)); intro gb586 hg w13 hbox hb; have n_ := t9 (Kd.N_below (Kd.N_elderB zd43 gb586 (Nat.le_of_eq hg.symm)) hb) (Kd.N_below (Kd.N_elderB zd42 gb586 (Nat.le_of_eq hg.symm)) hb) (blk_below (g := gb583) (o := .cells #[.int .i64 t576, .slice Ao10 t577.length co10, .slice Ao11 t580.length co11] 27 (0, 0)) (pK BK583) hb) (bz_ pB hb) (hbox) ((by rw [hg]; exact (bs_ pB) : w.heap.size ≤ gb586)) ((by rw [hg]; exact (bs_ pB) : w.heap.size ≤ gb586)) ((by rw [hg]; exact Nat.ne_of_lt (blk_lt (g := gb583) (o := .cells #[.int .i64 t576, .slice Ao10 t577.length co10, .slice Ao11 t580.length co11] 27 (0, 0)) (pK BK583)) : gb583 ≠ gb586)) ((by rw [hg]; exact Nat.ne_of_gt (blk_lt (g := gb583) (o := .cells #[.int .i64 t576, .slice Ao10 t577.length co10, .slice Ao11 t580.length co11] 27 (0, 0)) (pK BK583)) : gb586 ≠ gb583)); clear HO579 HO582 BK583 HB; obtain ⟨HO579, HO582, BK583, HB, BK586, GW586, GE586, NB583_586, NB586_583⟩ := n_; clear hb hbox hg; have hnb14 := NB586_583.out; have hnc14 := NB583_586.out; have hcz15_0 : w13.cell? ⟨gb586, 0, none⟩ = some (.int .i64 0) := (blk_cell BK586.out 0).trans rfl; have hcz15_1 : w13.cell? ⟨gb586, 1, none⟩ = some (.int .i64 0) := (blk_cell BK586.out 1).trans rfl; have hfz15_0 := blk_frozen BK586.out 0; have hfz15_1 := blk_frozen BK586.out 1; have hcz16_0 : w13.cell? ⟨gb583, 0, none⟩ = some (.int .i64 t576) := (blk_cell BK583.out 0).trans rfl; have hcz16_1 : w13.cell? ⟨gb583, 1, none⟩ = some (.slice Ao10 t577.length co10) := (blk_cell BK583.out 1).trans rfl; have hcz16_2 : w13.cell? ⟨gb583, 2, none⟩ = some (.slice Ao11 t580.length co11) := (blk_cell BK583.out 2).trans rfl; have hfz16_0 := blk_frozen BK583.out 0; have hfz16_1 := blk_frozen BK583.out 1; have hfz16_2 := blk_frozen BK583.out 2) | ((with_reducible refine gate_dst (N := 5) rfl ?_); refine box_event ?hg (N := 5) ?hd (cs := #[.int .i64 0, .slice none 0 0, .slice none 0 0]) (t := 27) ?hr ?_; (case hd => rfl); (case hg => rfl); (case hr => first | (go_simp; done) | (go_simp; rfl)); intro gb589 hg w17 hbox hb; have n_ := t12 (Kd.N_below (Kd.N_elderB (by (with_reducible repeat (first | apply Kd.N_alloc | apply Kd.N_drewN | apply Kd.N_drew)); exact (Kd.N_mono (Kd.N_far (p := ⟨gb586, 1, none⟩) (Kd.N_far (p := ⟨gb586, 0, none⟩) (Kd.N_mono HO579.out (fun k_ hk => (⟨hk, hk.2⟩ : _ ∧ k_ ≠ gb586))) (fun _ hk => hk.2) (.int .i64 t584)) (fun _ hk => hk.2) (.int .i64 t585)) (fun _ h_ => h_.1))) gb589 (Nat.le_of_eq hg.symm)) hb) (Kd.N_below (Kd.N_elderB (by (with_reducible repeat (first | apply Kd.N_alloc | apply Kd.N_drewN | apply Kd.N_drew)); exact (Kd.N_mono (Kd.N_far (p := ⟨gb586, 1, none⟩) (Kd.N_far (p := ⟨gb586, 0, none⟩) (Kd.N_mono HO582.out (fun k_ hk => (⟨hk, hk.2⟩ : _ ∧ k_ ≠ gb586))) (fun _ hk => hk.2) (.int .i64 t584)) (fun _ hk => hk.2) (.int .i64 t585)) (fun _ h_ => h_.1))) gb589 (Nat.le_of_eq hg.symm)) hb) (blk_below (g := gb583) (o := .cells #[.int .i64 t576, .slice Ao10 t577.length co10, .slice Ao11 t580.length co11] 27 (0, 0)) zd24 hb) (blk_below (g := gb586) (o := .cells #[.int .i64 t584, .int .i64 t585] 30 (0, 0)) zd21 hb) (bz_ pB hb) (hbox) ((by rw [hg]; exact (bs_ pB) : w.heap.size ≤ gb589)) ((by rw [hg]; exact (bs_ pB) : w.heap.size ≤ gb589)) ((by rw [hg]; exact Nat.ne_of_lt (blk_lt (g := gb583) (o := .cells #[.int .i64 t576, .slice Ao10 t577.length co10, .slice Ao11 t580.length co11] 27 (0, 0)) zd24) : gb583 ≠ gb589)) ((by rw [hg]; exact Nat.ne_of_gt (blk_lt (g := gb583) (o := .cells #[.int .i64 t576, .slice Ao10 t577.length co10, .slice Ao11 t580.length co11] 27 (0, 0)) zd24) : gb589 ≠ gb583)) ((by rw [hg]; exact Nat.ne_of_lt (blk_lt (g := gb586) (o := .cells #[.int .i64 t584, .int .i64 t585] 30 (0, 0)) zd21) : gb586 ≠ gb589)) ((by rw [hg]; exact Nat.ne_of_gt (blk_lt (g := gb586) (o := .cells #[.int .i64 t584, .int .i64 t585] 30 (0, 0)) zd21) : gb589 ≠ gb586)); clear HO579 HO582 BK583 BK586 HB; obtain ⟨HO579, HO582, BK583, BK586, HB, BK589, GW589, GE589, NB583_589, NB589_583, NB586_589, NB589_586⟩ := n_; clear hb hbox hg; have hnb18 := NB589_583.out; have hnc18 := NB583_589.out; have hnb19 := NB589_586.out; have hnc19 := NB586_589.out; have hcz20_0 : w17.cell? ⟨gb589, 0, none⟩ = some (.int .i64 0) := (blk_cell BK589.out 0).trans rfl; have hcz20_1 : w17.cell? ⟨gb589, 1, none⟩ = some (.slice none 0 0) := (blk_cell BK589.out 1).trans rfl; have hcz20_2 : w17.cell? ⟨gb589, 2, none⟩ = some (.slice none 0 0) := (blk_cell BK589.out 2).trans rfl; have hfz20_0 := blk_frozen BK589.out 0; have hfz20_1 := blk_frozen BK589.out 1; have hfz20_2 := blk_frozen BK589.out 2))
     go_loopg [6] k (fun kq v6 w' => ∃ (x6_1 : Int) (x590001_1 : List (S34)) (u590001 : Value), v6 = .int .i64 x6_1 ∧ Aside0 (laws_FnNames.l0 kq x6_1 t576 t577 t580 t584 t585 t576 x590001_1 t580 = some r) ∧ Aside0 (kq ≤ k) ∧ Aside0 (Kd.N k34 34 w' w.heap.size (fun k_ => some k_ ≠ ((.slice Ao11 t580.length co11) : Value).ownBlock ∧ some k_ ≠ (u590001 : Value).ownBlock ∧ some k_ ≠ ((.slice Ao11 t580.length co11) : Value).ownBlock ∧ k_ ≠ gb583 ∧ k_ ≠ gb586 ∧ k_ ≠ gb589) (.slice Ao10 t577.length co10) t577) ∧ Aside0 (Kd.N k86 86 w' w.heap.size (fun k_ => some k_ ≠ ((.slice Ao10 t577.length co10) : Value).ownBlock ∧ some k_ ≠ (u590001 : Value).ownBlock ∧ k_ ≠ gb583 ∧ k_ ≠ gb586 ∧ k_ ≠ gb589) (.slice Ao11 t580.length co11) t580) ∧ Aside0 (Kd.N k34 34 w' w.heap.size (fun k_ => some k_ ≠ ((.slice Ao10 t577.length co10) : Value).ownBlock ∧ some k_ ≠ ((.slice Ao11 t580.length co11) : Value).ownBlock ∧ some k_ ≠ ((.slice Ao11 t580.length co11) : Value).ownBlock ∧ k_ ≠ gb583 ∧ k_ ≠ gb586 ∧ k_ ≠ gb589) u590001 x590001_1) ∧ Aside0 (Kd.N k86 86 w' w.heap.size (fun k_ => some k_ ≠ ((.slice Ao10 t577.length co10) : Value).ownBlock ∧ some k_ ≠ (u590001 : Value).ownBlock ∧ k_ ≠ gb583 ∧ k_ ≠ gb586 ∧ k_ ≠ gb589) (.slice Ao11 t580.length co11) t580) ∧ Aside0 (w'.heap[gb583]? = some (.cells #[.int .i64 t576, (.slice Ao10 t577.length co10), (.slice Ao11 t580.length co11)] 27 (0, 0))) ∧ Aside0 (w'.heap[gb586]? = some (.cells #[.int .i64 t584, .int .i64 t585] 30 (0, 0))) ∧ Aside0 (w'.heap[gb589]? = some (.cells #[.int .i64 t576, u590001, (.slice Ao11 t580.length co11)] 27 (0, 0))) ∧ Aside0 (Below w.heap.size w w'))
     case atStart => exact ⟨(0), (([] : List (S34))), (.slice none 0 0), pF, H', ⟨Nat.le_refl _⟩, ⟨by (with_reducible repeat (first | apply Kd.N_alloc | apply Kd.N_drewN | apply Kd.N_drew)); exact Kd.N_mono (Kd.N_far (p := ⟨gb589, 2, none⟩) (Kd.N_far (p := ⟨gb589, 1, none⟩) (Kd.N_far (p := ⟨gb589, 0, none⟩) (Kd.N_mono HO579.out (fun k_ hk => (⟨hk, hk.2⟩ : _ ∧ k_ ≠ gb589))) (fun _ hk => hk.2) (.int .i64 t576)) (fun _ hk => hk.2) (.slice none 0 0)) (fun _ hk => hk.2) (.slice Ao11 t580.length co11)) (fun _ hk => ⟨hk.1.1.1.1, ⟨(by simp [Value.ownBlock]), ⟨hk.1.1.1.1, ⟨hk.1.1.1.2, ⟨hk.1.1.2, hk.1.2⟩⟩⟩⟩⟩)⟩, ⟨by (with_reducible repeat (first | apply Kd.N_alloc | apply Kd.N_drewN | apply Kd.N_drew)); exact Kd.N_mono (Kd.N_far (p := ⟨gb589, 2, none⟩) (Kd.N_far (p := ⟨gb589, 1, none⟩) (Kd.N_far (p := ⟨gb589, 0, none⟩) (Kd.N_mono HO582.out (fun k_ hk => (⟨hk, hk.2⟩ : _ ∧ k_ ≠ gb589))) (fun _ hk => hk.2) (.int .i64 t576)) (fun _ hk => hk.2) (.slice none 0 0)) (fun _ hk => hk.2) (.slice Ao11 t580.length co11)) (fun _ hk => ⟨hk.1.1.1.1, ⟨(by simp [Value.ownBlock]), ⟨hk.1.1.1.2, ⟨hk.1.1.2, hk.1.2⟩⟩⟩⟩)⟩, ⟨by first | exact Kd.S_nil _ _ _ _ _ | exact Kd.N_nil _ _ _ _ _ | exact Kd.V_nil _ _ _ _ _ | exact Kd.Q_nil _ _ _ _ _ | exact Kd.R_nil _ _ _ _ _⟩, ⟨by (with_reducible repeat (first | apply Kd.N_alloc | apply Kd.N_drewN | apply Kd.N_drew)); exact Kd.N_mono (Kd.N_far (p := ⟨gb589, 2, none⟩) (Kd.N_far (p := ⟨gb589, 1, none⟩) (Kd.N_far (p := ⟨gb589, 0, none⟩) (Kd.N_mono HO582.out (fun k_ hk => (⟨hk, hk.2⟩ : _ ∧ k_ ≠ gb589))) (fun _ hk => hk.2) (.int .i64 t576)) (fun _ hk => hk.2) (.slice none 0 0)) (fun _ hk => hk.2) (.slice Ao11 t580.length co11)) (fun _ hk => ⟨hk.1.1.1.1, ⟨(by simp [Value.ownBlock]), ⟨hk.1.1.1.2, ⟨hk.1.1.2, hk.1.2⟩⟩⟩⟩)⟩, ⟨by (with_reducible repeat (first | refine blk_drewN ?_ _ | refine blk_drew ?_ | refine blk_alloc ?_ _)); refine blk_far ?_ NB583_589.out _; (with_reducible repeat (first | refine blk_drewN ?_ _ | refine blk_drew ?_ | refine blk_alloc ?_ _)); refine blk_far ?_ NB583_589.out _; (with_reducible repeat (first | refine blk_drewN ?_ _ | refine blk_drew ?_ | refine blk_alloc ?_ _)); refine blk_far ?_ NB583_589.out _; (with_reducible repeat (first | refine blk_drewN ?_ _ | refine blk_drew ?_ | refine blk_alloc ?_ _)); exact BK583.out⟩, ⟨by (with_reducible repeat (first | refine blk_drewN ?_ _ | refine blk_drew ?_ | refine blk_alloc ?_ _)); refine blk_far ?_ NB586_589.out _; (with_reducible repeat (first | refine blk_drewN ?_ _ | refine blk_drew ?_ | refine blk_alloc ?_ _)); refine blk_far ?_ NB586_589.out _; (with_reducible repeat (first | refine blk_drewN ?_ _ | refine blk_drew ?_ | refine blk_alloc ?_ _)); refine blk_far ?_ NB586_589.out _; (with_reducible repeat (first | refine blk_drewN ?_ _ | refine blk_drew ?_ | refine blk_alloc ?_ _)); exact BK586.out⟩, ⟨by (with_reducible repeat (first | refine blk_drewN ?_ _ | refine blk_drew ?_ | refine blk_alloc ?_ _)); refine blk_put (cs := #[.int .i64 t576, .slice none 0 0, .slice none 0 0]) ?_ 2 _ rfl; (with_reducible repeat (first | refine blk_drewN ?_ _ | refine blk_drew ?_ | refine blk_alloc ?_ _)); refine blk_put (cs := #[.int .i64 t576, .slice none 0 0, .slice none 0 0]) ?_ 1 _ rfl; (with_reducible repeat (first | refine blk_drewN ?_ _ | refine blk_drew ?_ | refine blk_alloc ?_ _)); refine blk_put (cs := #[.int .i64 0, .slice none 0 0, .slice none 0 0]) ?_ 0 _ rfl; (with_reducible repeat (first | refine blk_drewN ?_ _ | refine blk_drew ?_ | refine blk_alloc ?_ _)); exact BK589.out⟩, ⟨pB⟩⟩
     case round =>
      clear H'
      (try clear c1); (try clear c3); (try clear c6); (try clear c6b0); (try clear c6b1); (try clear hcz15_0); (try clear hcz15_1); (try clear hcz16_0); (try clear hcz16_1); (try clear hcz16_2); (try clear hcz20_0); (try clear hcz20_1); (try clear hcz20_2); (try clear hcz9_0); (try clear hcz9_1); (try clear hcz9_2); (try clear hfz15_0); (try clear hfz15_1); (try clear hfz16_0); (try clear hfz16_1); (try clear hfz16_2); (try clear hfz20_0); (try clear hfz20_1); (try clear hfz20_2); (try clear hfz9_0); (try clear hfz9_1); (try clear hfz9_2)
      obtain ⟨x6_1, x590001_1, u590001, rfl, HA, HK1, HO_584001, HO_584002, HO_590001, HO_590002, BK583, BK586, BK589, HB⟩ := hrel
      cases gk with
      | zero => exact absurd HA.out (by simp [laws_FnNames.l0])
      | succ k1 =>
       have H := HA.out
       clear HA
       simp only [laws_FnNames.l0] at H
       by_cases c21 : x6_1 < (t577.length : Int)
       · rw [if_pos c21] at H
         have c21b0 : decide (x6_1 < (t577.length : Int)) = true := dt c21
         clear c21
         by_cases c22 : 0 ≤ x6_1
         · rw [if_pos c22] at H
           have c22b0 : decide (0 ≤ x6_1) = true := dt c22
           clear c22
           by_cases c23 : x590001_1.length < 3518437208883
           · rw [if_pos c23] at H
             have LMc23 := am c23; clear c23
             obtain ⟨y592, hy592⟩ : ∃ y_ : List (S34), y_ = (x590001_1 ++ [(⟨(rd_T34 t577 x6_1).f0, (rd_T34 t577 x6_1).f1, ([] : List Int)⟩ : S34)]) := ⟨_, rfl⟩
             replace H : (laws_FnNames.l0 k1 (wrap64 (x6_1 + 1)) t576 t577 t580 t584 t585 t576 y592 t580) = some r := by first | (rw [hy592]; with_reducible exact H) | (have H2_ := (Option.bind_some _ _).symm.trans H; rw [hy592]; with_reducible exact H2_) | (have H2_ := (Option.bind_some _ _).symm.trans H; with_reducible exact H2_) | with_reducible exact H | (rw [hy592]; exact H) | exact H
             have Ny592 := am hy592; clear hy592
             have H' := am H
             clear H
             have hnb24 := NB583_586.out
             have hnc24 := NB586_583.out
             have hnb25 := NB583_589.out
             have hnc25 := NB589_583.out
             obtain ⟨hcz26_0, hcz26_1, hcz26_2, hfz26_0, hfz26_1, hfz26_2⟩ := bx3 BK583
             try go_wp2
             have n_ := t8 (Kd.N_drew HO_584001.out) (Kd.N_drew HO_584002.out) (Kd.N_drew HO_590001.out) (Kd.N_drew HO_590002.out) (blk_drew BK583.out) (blk_drew BK586.out) (blk_drew BK589.out) (below_drew1 HB.out)
             clear HO_584001 HO_584002 HO_590001 HO_590002 BK583 BK586 BK589 HB; obtain ⟨HO_584001, HO_584002, HO_590001, HO_590002, BK583, BK586, BK589, HB⟩ := n_
             have p590 : 0 ≤ (x6_1 : Int) := pD
             have q590 : x6_1 < (t577.length : Int) := pD
             obtain ⟨ad590, A590_2, c590_2, e590, hx590_0, hx590_1, hx590_2, hl590_2, hi590_2⟩ := at_T34 (Kd.N_reads' HO_584001.out).2.2 x6_1 p590 q590
             cases e590
             obtain ⟨ce590, hce590, hMe590, hcc590⟩ := Kd.N_get HO_584001.out z34 x6_1 p590 (by first | exact q590 | exact pD | (have e_ := (Kd.N_reads' HO_584001.out).1; omega))
             obtain ⟨ua590_2, uc590_2, rfl, ul590_2, ge590_2⟩ := k34_openF hMe590
             have hv590_2 := hcc590 2 _ rfl
             rw [add_field _ _ 2 (by omega)] at hv590_2
             replace hv590_2 := sj (hv590_2.symm.trans hx590_2)
             injection hv590_2 with hva_ hvn_ hvc_
             rw [hva_] at ge590_2
             rw [hvc_] at ul590_2
             have HL590_2 := am (show Kd.V (Kd.int .i64) 2 _ w.heap.size _ _ ((rd_T34 t577 x6_1).f2) from Kd.V_mk ul590_2 ge590_2)
             clear hva_ hvn_ hvc_ ge590_2 ul590_2; clear hcc590 hce590; have HR590_2 := am hi590_2; have HC590_2 := am hl590_2; clear hi590_2 hl590_2; replace p590 := eq_true p590; replace q590 := eq_true q590
             have p591 : 0 ≤ (x6_1 : Int) := pD
             have q591 : x6_1 < (t577.length : Int) := pD
             obtain ⟨ad591, A591_2, c591_2, e591, hx591_0, hx591_1, hx591_2, hl591_2, hi591_2⟩ := at_T34 (Kd.N_reads' HO_584001.out).2.2 x6_1 p591 q591
             obtain rfl : ad590 = ad591 := (by injection e591)
             obtain ⟨ce591, hce591, hMe591, hcc591⟩ := Kd.N_get HO_584001.out z34 x6_1 p591 (by first | exact q591 | exact pD | (have e_ := (Kd.N_reads' HO_584001.out).1; omega))
             obtain ⟨ua591_2, uc591_2, rfl, ul591_2, ge591_2⟩ := k34_openF hMe591
             have hv591_2 := hcc591 2 _ rfl
             rw [add_field _ _ 2 (by omega)] at hv591_2
             replace hv591_2 := sj (hv591_2.symm.trans hx591_2)
             injection hv591_2 with hva_ hvn_ hvc_
             rw [hva_] at ge591_2
             rw [hvc_] at ul591_2
             have HL591_2 := am (show Kd.V (Kd.int .i64) 2 _ w.heap.size _ _ ((rd_T34 t577 x6_1).f2) from Kd.V_mk ul591_2 ge591_2)
             clear hva_ hvn_ hvc_ ge591_2 ul591_2; clear hcc591 hce591; have HR591_2 := am hi591_2; have HC591_2 := am hl591_2; clear hi591_2 hl591_2; replace p591 := eq_true p591; replace q591 := eq_true q591
             have ea_ := sj (hx590_2.symm.trans hx591_2)
             injection ea_ with ea_ en_ ec_
             subst ea_; subst ec_; clear en_
             refine start_ (n := 19) (S := fun w' => w'.cell? ⟨gb589, 0, none⟩ = some (.int .i64 t576) ∧ w'.cell? ⟨gb589, 1, none⟩ = some (u590001) ∧ w'.cell? ⟨gb589, 2, none⟩ = some (.slice Ao11 t580.length co11) ∧ w'.cell? ⟨gb583, 0, none⟩ = some (.int .i64 t576) ∧ w'.cell? ⟨gb583, 1, none⟩ = some (.slice (some ad590) t577.length co10) ∧ w'.cell? ⟨gb583, 2, none⟩ = some (.slice Ao11 t580.length co11) ∧ w'.cell? (ad590.add ((x6_1).toNat * 3)) = some (.int .i64 ((rd_T34 t577 x6_1).f0)) ∧ w'.cell? ⟨(ad590.add ((x6_1).toNat * 3)).block, (ad590.add ((x6_1).toNat * 3)).off + 1, none⟩ = some (.int .i64 ((rd_T34 t577 x6_1).f1)) ∧ w'.cell? ⟨(ad590.add ((x6_1).toNat * 3)).block, (ad590.add ((x6_1).toNat * 3)).off + 2, none⟩ = some (.slice A590_2 ((rd_T34 t577 x6_1).f2).length c590_2) ∧ w'.cell? (ad590.add ((x6_1).toNat * 3)) = some (.int .i64 ((rd_T34 t577 x6_1).f0)) ∧ w'.cell? ⟨(ad590.add ((x6_1).toNat * 3)).block, (ad590.add ((x6_1).toNat * 3)).off + 1, none⟩ = some (.int .i64 ((rd_T34 t577 x6_1).f1)) ∧ w'.cell? ⟨(ad590.add ((x6_1).toNat * 3)).block, (ad590.add ((x6_1).toNat * 3)).off + 2, none⟩ = some (.slice A590_2 ((rd_T34 t577 x6_1).f2).length c590_2)) (ds := [18]) #[false, false, false, false, false, false, false, false, false, false, false, false, false, false, false, false, false, false, false] (by kernel_rfl) rfl rfl ⟨(blk_cell BK589.out 0).trans rfl, (blk_cell BK589.out 1).trans rfl, (blk_cell BK589.out 2).trans rfl, (blk_cell BK583.out 0).trans rfl, (blk_cell BK583.out 1).trans rfl, (blk_cell BK583.out 2).trans rfl, hx590_0, hx590_1, hx590_2, hx591_0, hx591_1, hx591_2⟩ (fun hHeld => ?_); refine with_tabW laws_FnNames.tab11 laws_FnNames.bits11 (fun HT_ HW_ => ?_)
             generalize wr.drew = w27 at HO_584001 HO_584002 HO_590001 HO_590002 BK583 BK586 BK589 HB HL590_2 HL591_2 HR590_2 HR591_2 hx590_0 hx590_1 hx590_2 hx591_0 hx591_1 hx591_2 hHeld ⊢
             refine pure_ (i := 0) (N := some 35) (v := ?_) (a' := ?_) #[true, false, false, false, false, false, false, false, false, false, false, false, false, false, false, false, false, false, false] rfl rfl (any_of HT_.out (by kernel_rfl)) (fun _ _ _ h => h) (Or.inl ⟨by rfl, ?_⟩) ?_ ?_
             rotate_left
             · intro w'
               go_simp
               with_reducible rfl
             rotate_left
             · simp only [Act.put, List.setIfInBounds_toArray, List.set_cons_zero, List.set_cons_succ, i64_w, i32_w]
               rfl
             refine pure_ (i := 2) (N := some 37) (v := ?_) (a' := ?_) #[true, false, true, false, false, false, false, false, false, false, false, false, false, false, false, false, false, false, false] rfl rfl (any_of HT_.out (by kernel_rfl)) (fun _ _ _ h => h) (Or.inl ⟨by rfl, ?_⟩) ?_ ?_
             rotate_left
             · intro w'
               go_simp
               with_reducible rfl
             rotate_left
             · simp only [Act.put, List.setIfInBounds_toArray, List.set_cons_zero, List.set_cons_succ, i64_w, i32_w]
               rfl
             refine pure_ (i := 4) (N := some 39) (v := ?_) (a' := ?_) #[true, false, true, false, true, false, false, false, false, false, false, false, false, false, false, false, false, false, false] rfl rfl (any_of HT_.out (by kernel_rfl)) (fun _ _ _ h => h) (Or.inl ⟨by rfl, ?_⟩) ?_ ?_
             rotate_left
             · intro w'
               go_simp
               with_reducible rfl
             rotate_left
             · simp only [Act.put, List.setIfInBounds_toArray, List.set_cons_zero, List.set_cons_succ, i64_w, i32_w]
               rfl
             refine pure_ (i := 8) (N := some 43) (v := ?_) (a' := ?_) #[true, false, true, false, true, false, false, false, true, false, false, false, false, false, false, false, false, false, false] rfl rfl (any_of HT_.out (by kernel_rfl)) (fun _ _ _ h => h) (Or.inl ⟨by rfl, ?_⟩) ?_ ?_
             rotate_left
             · intro w'
               go_simp
               with_reducible rfl
             rotate_left
             · simp only [Act.put, List.setIfInBounds_toArray, List.set_cons_zero, List.set_cons_succ, i64_w, i32_w]
               rfl
             refine pure_ (i := 10) (N := some 45) (v := ?_) (a' := ?_) #[true, false, true, false, true, false, false, false, true, false, true, false, false, false, false, false, false, false, false] rfl rfl (any_of HT_.out (by kernel_rfl)) (fun _ _ _ h => h) (Or.inl ⟨by rfl, ?_⟩) ?_ ?_
             rotate_left
             · intro w'
               go_simp
               with_reducible rfl
             rotate_left
             · simp only [Act.put, List.setIfInBounds_toArray, List.set_cons_zero, List.set_cons_succ, i64_w, i32_w]
               rfl
             refine take_ (i := 1) (N := some 36) (v := ?_) (a' := ?_) #[true, true, true, false, true, false, false, false, true, false, true, false, false, false, false, false, false, false, false] rfl rfl (take_ofW HT_.out HW_.out (by kernel_rfl)) (fun _ _ _ h => h) (Or.inl ⟨by rfl, ?_⟩) hHeld ?_ ?_
             rotate_left
             · rintro w' ⟨s0, s1, s2, s3, s4, s5, s6, s7, s8, s9, s10, s11⟩
               go_simp
               with_reducible rfl
             rotate_left
             · simp only [Act.put, List.setIfInBounds_toArray, List.set_cons_zero, List.set_cons_succ, i64_w, i32_w]
               rfl
             refine take_ (i := 3) (N := some 38) (v := ?_) (a' := ?_) #[true, true, true, true, true, false, false, false, true, false, true, false, false, false, false, false, false, false, false] rfl rfl (take_ofW HT_.out HW_.out (by kernel_rfl)) (fun _ _ _ h => h) (Or.inl ⟨by rfl, ?_⟩) hHeld ?_ ?_
             rotate_left
             · rintro w' ⟨s0, s1, s2, s3, s4, s5, s6, s7, s8, s9, s10, s11⟩
               go_simp
               with_reducible rfl
             rotate_left
             · simp only [Act.put, List.setIfInBounds_toArray, List.set_cons_zero, List.set_cons_succ, i64_w, i32_w]
               rfl
             refine pure_ (i := 5) (N := some 40) (v := ?_) (a' := ?_) #[true, true, true, true, true, true, false, false, true, false, true, false, false, false, false, false, false, false, false] rfl rfl (any_of HT_.out (by kernel_rfl)) (fun _ _ _ h => h) (Or.inl ⟨by rfl, ?_⟩) ?_ ?_
             rotate_left
             · intro w'
               go_simp
               with_reducible rfl
             rotate_left
             · simp only [Act.put, List.setIfInBounds_toArray, List.set_cons_zero, List.set_cons_succ, i64_w, i32_w]
               rfl
             refine pure_ (i := 6) (N := some 41) (v := ?_) (a' := ?_) #[true, true, true, true, true, true, true, false, true, false, true, false, false, false, false, false, false, false, false] rfl rfl (any_of HT_.out (by kernel_rfl)) (fun _ _ _ h => h) (Or.inl ⟨by rfl, ?_⟩) ?_ ?_
             rotate_left
             · intro w'
               go_simp
               with_reducible rfl
             rotate_left
             · simp only [Act.put, List.setIfInBounds_toArray, List.set_cons_zero, List.set_cons_succ, i64_w, i32_w]
               rfl
             refine take_ (i := 7) (N := some 42) (v := ?_) (a' := ?_) #[true, true, true, true, true, true, true, true, true, false, true, false, false, false, false, false, false, false, false] rfl rfl (take_ofW HT_.out HW_.out (by kernel_rfl)) (fun _ _ _ h => h) (Or.inl ⟨by rfl, ?_⟩) hHeld ?_ ?_
             rotate_left
             · rintro w' ⟨s0, s1, s2, s3, s4, s5, s6, s7, s8, s9, s10, s11⟩
               go_simp
               with_reducible rfl
             rotate_left
             · simp only [Act.put, List.setIfInBounds_toArray, List.set_cons_zero, List.set_cons_succ, i64_w, i32_w]
               rfl
             refine take_ (i := 9) (N := some 44) (v := ?_) (a' := ?_) #[true, true, true, true, true, true, true, true, true, true, true, false, false, false, false, false, false, false, false] rfl rfl (take_ofW HT_.out HW_.out (by kernel_rfl)) (fun _ _ _ h => h) (Or.inl ⟨by rfl, ?_⟩) hHeld ?_ ?_
             rotate_left
             · rintro w' ⟨s0, s1, s2, s3, s4, s5, s6, s7, s8, s9, s10, s11⟩
               go_simp
               with_reducible rfl
             rotate_left
             · simp only [Act.put, List.setIfInBounds_toArray, List.set_cons_zero, List.set_cons_succ, i64_w, i32_w]
               rfl
             refine pure_ (i := 11) (N := some 46) (v := ?_) (a' := ?_) #[true, true, true, true, true, true, true, true, true, true, true, true, false, false, false, false, false, false, false] rfl rfl (any_of HT_.out (by kernel_rfl)) (fun _ _ _ h => h) (Or.inl ⟨by rfl, ?_⟩) ?_ ?_
             rotate_left
             · intro w'
               go_simp
               with_reducible rfl
             rotate_left
             · simp only [Act.put, List.setIfInBounds_toArray, List.set_cons_zero, List.set_cons_succ, i64_w, i32_w]
               rfl
             refine pure_ (i := 12) (N := some 47) (v := ?_) (a' := ?_) #[true, true, true, true, true, true, true, true, true, true, true, true, true, false, false, false, false, false, false] rfl rfl (any_of HT_.out (by kernel_rfl)) (fun _ _ _ h => h) (Or.inl ⟨by rfl, ?_⟩) ?_ ?_
             rotate_left
             · intro w'
               go_simp
               with_reducible rfl
             rotate_left
             · simp only [Act.put, List.setIfInBounds_toArray, List.set_cons_zero, List.set_cons_succ, i64_w, i32_w]
               rfl
             refine take_ (i := 13) (N := some 48) (v := ?_) (a' := ?_) #[true, true, true, true, true, true, true, true, true, true, true, true, true, true, false, false, false, false, false] rfl rfl (take_ofW HT_.out HW_.out (by kernel_rfl)) (fun _ _ _ h => h) (Or.inl ⟨by rfl, ?_⟩) hHeld ?_ ?_
             rotate_left
             · rintro w' ⟨s0, s1, s2, s3, s4, s5, s6, s7, s8, s9, s10, s11⟩
               go_simp
               with_reducible rfl
             rotate_left
             · simp only [Act.put, List.setIfInBounds_toArray, List.set_cons_zero, List.set_cons_succ, i64_w, i32_w]
               rfl
             refine pure_ (i := 14) (N := some 49) (v := ?_) (a' := ?_) #[true, true, true, true, true, true, true, true, true, true, true, true, true, true, true, false, false, false, false] rfl rfl (any_of HT_.out (by kernel_rfl)) (fun _ _ _ h => h) (Or.inl ⟨by rfl, ?_⟩) ?_ ?_
             rotate_left
             · intro w'
               go_simp
               with_reducible rfl
             rotate_left
             · simp only [Act.put, List.setIfInBounds_toArray, List.set_cons_zero, List.set_cons_succ, i64_w, i32_w]
               rfl
             refine one_ (i := 15) (N := some 50) #[true, true, true, true, true, true, true, true, true, true, true, true, true, true, true, true, false, false, false] rfl rfl (one_of HT_.out (by kernel_rfl)) (by decide) (fun K hK => ?_)
             refine value_ (w1 := ?_) (v := ?_) (by rfl) rfl ?_ ?_
             rotate_left 2
             · go_simp
               constructor
               · rfl
               · rfl
             refine hK.out _ _ ⟨(blk_cell (blk_alloc BK589.out _) 0).trans rfl, (blk_cell (blk_alloc BK589.out _) 1).trans rfl, (blk_cell (blk_alloc BK589.out _) 2).trans rfl, (blk_cell (blk_alloc BK583.out _) 0).trans rfl, (blk_cell (blk_alloc BK583.out _) 1).trans rfl, (blk_cell (blk_alloc BK583.out _) 2).trans rfl, (World.cell?_alloc_lt _ _ _ (World.block_lt_of_cell? _ _ (hHeld.2.2.2.2.2.2.1))).trans (hHeld.2.2.2.2.2.2.1), (World.cell?_alloc_lt _ _ _ (World.block_lt_of_cell? _ _ (hHeld.2.2.2.2.2.2.2.1))).trans (hHeld.2.2.2.2.2.2.2.1), (World.cell?_alloc_lt _ _ _ (World.block_lt_of_cell? _ _ (hHeld.2.2.2.2.2.2.2.2.1))).trans (hHeld.2.2.2.2.2.2.2.2.1), (World.cell?_alloc_lt _ _ _ (World.block_lt_of_cell? _ _ (hHeld.2.2.2.2.2.2.2.2.2.1))).trans (hHeld.2.2.2.2.2.2.2.2.2.1), (World.cell?_alloc_lt _ _ _ (World.block_lt_of_cell? _ _ (hHeld.2.2.2.2.2.2.2.2.2.2.1))).trans (hHeld.2.2.2.2.2.2.2.2.2.2.1), (World.cell?_alloc_lt _ _ _ (World.block_lt_of_cell? _ _ (hHeld.2.2.2.2.2.2.2.2.2.2.2))).trans (hHeld.2.2.2.2.2.2.2.2.2.2.2)⟩ (fun hHeld => ?_)
             clear hK K
             refine norm_ (a' := ?_) ?_ ?_
             rotate_left
             · show Act.put _ (some 50) _ = _
               simp only [Act.put, List.setIfInBounds_toArray, List.set_cons_zero, List.set_cons_succ, i64_w, i32_w]
               rfl
             refine one_ (i := 16) (N := some 51) #[true, true, true, true, true, true, true, true, true, true, true, true, true, true, true, true, true, false, false] rfl rfl (one_of HT_.out (by kernel_rfl)) (by decide) (fun K hK => ?_)
             refine Kd.N_append_step k34 (w0 := w) w.heap.size (by rfl) (.tmp 36) (.tmp 50) 24 34 (.agg #[(.int .i64 0), (.int .i64 0), (.slice none 0 0)]) 40 rfl Try.underlying24 info34 rfl (by decide) (by omega) u590001 x590001_1 (⟨(rd_T34 t577 x6_1).f0, (rd_T34 t577 x6_1).f1, ([] : List Int)⟩ : S34) [.int .i64 ((rd_T34 t577 x6_1).f0), .int .i64 ((rd_T34 t577 x6_1).f1), .slice none 0 0] (fun k_ => some k_ ≠ (.slice (some ad590) t577.length co10 : Value).ownBlock ∧ some k_ ≠ (.slice Ao11 t580.length co11 : Value).ownBlock ∧ some k_ ≠ (.slice Ao11 t580.length co11 : Value).ownBlock ∧ k_ ≠ gb583 ∧ k_ ≠ gb586 ∧ k_ ≠ gb589) (fun k_ => ((fun k_ => some k_ ≠ (.slice (some ad590) t577.length co10 : Value).ownBlock ∧ some k_ ≠ (.slice Ao11 t580.length co11 : Value).ownBlock ∧ some k_ ≠ (.slice Ao11 t580.length co11 : Value).ownBlock ∧ k_ ≠ gb583 ∧ k_ ≠ gb586 ∧ k_ ≠ gb589)) k_ ∧ some k_ ≠ (u590001 : Value).ownBlock) rfl rfl ?aP (fun _ hk => hk) ?aF ?aO ?aB ?aS ?aL ?_
             (case aP => exact (k34_mkF _ _ (⟨(rd_T34 t577 x6_1).f0, (rd_T34 t577 x6_1).f1, ([] : List Int)⟩ : S34) (Nat.le_refl _) (Kd.F_nil _ _ _)))
             (case aB => exact pB)
             (case aF => exact (fun k_ hk => ⟨Kd.fresh' (Kd.N_lt zd29) k_ hk, Kd.fresh' (Kd.N_lt zd28) k_ hk, Kd.fresh' (Kd.N_lt zd26) k_ hk, Kd.freshB (g := gb583) (o := .cells #[.int .i64 t576, .slice (some ad590) t577.length co10, .slice Ao11 t580.length co11] 27 (0, 0)) (pK BK583) k_ hk, Kd.freshB (g := gb586) (o := .cells #[.int .i64 t584, .int .i64 t585] 30 (0, 0)) (pK BK586) k_ hk, Kd.freshB (g := gb589) (o := .cells #[.int .i64 t576, u590001, .slice Ao11 t580.length co11] 27 (0, 0)) (pK BK589) k_ hk⟩))
             (case aO => exact zd27)
             (case aS => exact (bs_ pB))
             (case aL => have := LMc23.out; omega)
             intro v593 w28 ho hb hg hat
             (first | have HS6_ := cell_grown hg (hHeld.2.2.2.2.2.2.1) zd1 | have HS6_ := cell_grown hg (cell_unalloc (hHeld.2.2.2.2.2.2.1) (by first | (rw [add_block]; exact Kd.N_lt HO_584001.out _ rfl) | (show (Addr.add _ _).block < _; rw [add_block]; exact Kd.N_lt HO_584001.out _ rfl) | exact Kd.N_lt HO_584001.out _ rfl)) zd1)
             (first | have HS7_ := cell_grown hg (hHeld.2.2.2.2.2.2.2.1) zd1 | have HS7_ := cell_grown hg (cell_unalloc (hHeld.2.2.2.2.2.2.2.1) (by first | (rw [add_block]; exact Kd.N_lt HO_584001.out _ rfl) | (show (Addr.add _ _).block < _; rw [add_block]; exact Kd.N_lt HO_584001.out _ rfl) | exact Kd.N_lt HO_584001.out _ rfl)) zd1)
             (first | have HS8_ := cell_grown hg (hHeld.2.2.2.2.2.2.2.2.1) zd1 | have HS8_ := cell_grown hg (cell_unalloc (hHeld.2.2.2.2.2.2.2.2.1) (by first | (rw [add_block]; exact Kd.N_lt HO_584001.out _ rfl) | (show (Addr.add _ _).block < _; rw [add_block]; exact Kd.N_lt HO_584001.out _ rfl) | exact Kd.N_lt HO_584001.out _ rfl)) zd1)
             (first | have HS9_ := cell_grown hg (hHeld.2.2.2.2.2.2.2.2.2.1) zd1 | have HS9_ := cell_grown hg (cell_unalloc (hHeld.2.2.2.2.2.2.2.2.2.1) (by first | (rw [add_block]; exact Kd.N_lt HO_584001.out _ rfl) | (show (Addr.add _ _).block < _; rw [add_block]; exact Kd.N_lt HO_584001.out _ rfl) | exact Kd.N_lt HO_584001.out _ rfl)) zd1)
             (first | have HS10_ := cell_grown hg (hHeld.2.2.2.2.2.2.2.2.2.2.1) zd1 | have HS10_ := cell_grown hg (cell_unalloc (hHeld.2.2.2.2.2.2.2.2.2.2.1) (by first | (rw [add_block]; exact Kd.N_lt HO_584001.out _ rfl) | (show (Addr.add _ _).block < _; rw [add_block]; exact Kd.N_lt HO_584001.out _ rfl) | exact Kd.N_lt HO_584001.out _ rfl)) zd1)
             (first | have HS11_ := cell_grown hg (hHeld.2.2.2.2.2.2.2.2.2.2.2) zd1 | have HS11_ := cell_grown hg (cell_unalloc (hHeld.2.2.2.2.2.2.2.2.2.2.2) (by first | (rw [add_block]; exact Kd.N_lt HO_584001.out _ rfl) | (show (Addr.add _ _).block < _; rw [add_block]; exact Kd.N_lt HO_584001.out _ rfl) | exact Kd.N_lt HO_584001.out _ rfl)) zd1)
             rw [← Ny592.out] at ho
             have n_ := t10 (Kd.N_afterv (ok := (fun k_ => some k_ ≠ (.slice Ao11 t580.length co11 : Value).ownBlock ∧ some k_ ≠ (.slice Ao11 t580.length co11 : Value).ownBlock ∧ k_ ≠ gb583 ∧ k_ ≠ gb586 ∧ k_ ≠ gb589)) (by (with_reducible repeat (first | apply Kd.N_alloc | apply Kd.N_drewN | apply Kd.N_drew)); exact Kd.N_mono HO_584001.out (fun _ hk => ⟨⟨hk.1, ⟨hk.2.2.1, ⟨hk.2.2.2.1, ⟨hk.2.2.2.2.1, hk.2.2.2.2.2⟩⟩⟩⟩, hk.2.1⟩)) hg hat) (Kd.N_afterv (ok := (fun k_ => some k_ ≠ (.slice (some ad590) t577.length co10 : Value).ownBlock ∧ k_ ≠ gb583 ∧ k_ ≠ gb586 ∧ k_ ≠ gb589)) (by (with_reducible repeat (first | apply Kd.N_alloc | apply Kd.N_drewN | apply Kd.N_drew)); exact Kd.N_mono HO_584002.out (fun _ hk => ⟨⟨hk.1, ⟨hk.2.2.1, ⟨hk.2.2.2.1, hk.2.2.2.2⟩⟩⟩, hk.2.1⟩)) hg hat) (Kd.N_afterv (ok := (fun k_ => some k_ ≠ (.slice (some ad590) t577.length co10 : Value).ownBlock ∧ k_ ≠ gb583 ∧ k_ ≠ gb586 ∧ k_ ≠ gb589)) (by (with_reducible repeat (first | apply Kd.N_alloc | apply Kd.N_drewN | apply Kd.N_drew)); exact Kd.N_mono HO_590002.out (fun _ hk => ⟨⟨hk.1, ⟨hk.2.2.1, ⟨hk.2.2.2.1, hk.2.2.2.2⟩⟩⟩, hk.2.1⟩)) hg hat) (blk_grown (g := gb583) (o := .cells #[.int .i64 t576, .slice (some ad590) t577.length co10, .slice Ao11 t580.length co11] 27 (0, 0)) (pK BK583) hg (Kd.N_ne HO_590001.out BK583.out (by decide))) (blk_grown (g := gb586) (o := .cells #[.int .i64 t584, .int .i64 t585] 30 (0, 0)) (pK BK586) hg (Kd.N_ne HO_590001.out BK586.out (by decide))) (blk_grown (g := gb589) (o := .cells #[.int .i64 t576, u590001, .slice Ao11 t580.length co11] 27 (0, 0)) (pK BK589) hg (Kd.N_ne HO_590001.out BK589.out (by decide))) (Kd.V_afterv (ok := (fun k_ => some k_ ≠ (.slice (some ad590) t577.length co10 : Value).ownBlock ∧ some k_ ≠ (.slice Ao11 t580.length co11 : Value).ownBlock ∧ some k_ ≠ (.slice Ao11 t580.length co11 : Value).ownBlock ∧ k_ ≠ gb583 ∧ k_ ≠ gb586 ∧ k_ ≠ gb589)) (by (with_reducible repeat (first | apply Kd.V_alloc | apply Kd.V_drewN | apply Kd.V_drew)); exact Kd.V_mono HL590_2.out (fun _ hk => ⟨⟨hk.2, ⟨hk.1.1, ⟨hk.1.2.2.1, ⟨hk.1.2.2.2.1, ⟨hk.1.2.2.2.2.1, hk.1.2.2.2.2.2⟩⟩⟩⟩⟩, hk.1.2.1⟩)) hg hat) (Kd.V_afterv (ok := (fun k_ => some k_ ≠ (.slice (some ad590) t577.length co10 : Value).ownBlock ∧ some k_ ≠ (.slice Ao11 t580.length co11 : Value).ownBlock ∧ some k_ ≠ (.slice Ao11 t580.length co11 : Value).ownBlock ∧ k_ ≠ gb583 ∧ k_ ≠ gb586 ∧ k_ ≠ gb589)) (by (with_reducible repeat (first | apply Kd.V_alloc | apply Kd.V_drewN | apply Kd.V_drew)); exact Kd.V_mono HL591_2.out (fun _ hk => ⟨⟨hk.2, ⟨hk.1.1, ⟨hk.1.2.2.1, ⟨hk.1.2.2.2.1, ⟨hk.1.2.2.2.2.1, hk.1.2.2.2.2.2⟩⟩⟩⟩⟩, hk.1.2.1⟩)) hg hat) (hb) (ho)
             clear HO_584001 HO_584002 HO_590002 BK583 BK586 BK589 HL590_2 HL591_2 HB HO_590001; obtain ⟨HO_584001, HO_584002, HO_590002, BK583, BK586, BK589, HL590_2, HL591_2, HB, HO594⟩ := n_; clear ho hb hg hat
             obtain ⟨Ao29, co29, eo29⟩ := Kd.N_slice HO594.out
             (first | subst eo29 | (injection eo29 with f1_ f2_ f3_; have f4_ := f1_.symm; have f5_ := f3_.symm; clear f1_ f2_ f3_; subst f4_; subst f5_))
             refine hK.out _ _ ⟨(blk_cell BK589.out 0).trans rfl, (blk_cell BK589.out 1).trans rfl, (blk_cell BK589.out 2).trans rfl, (blk_cell BK583.out 0).trans rfl, (blk_cell BK583.out 1).trans rfl, (blk_cell BK583.out 2).trans rfl, HS6_, HS7_, HS8_, HS9_, HS10_, HS11_⟩ (fun hHeld => ?_)
             clear hK K
             refine norm_ (a' := ?_) ?_ ?_
             rotate_left
             · show Act.put _ (some 51) _ = _
               simp only [Act.put, List.setIfInBounds_toArray, List.set_cons_zero, List.set_cons_succ, i64_w, i32_w]
               rfl
             refine pure_ (i := 17) (N := some 52) (v := ?_) (a' := ?_) #[true, true, true, true, true, true, true, true, true, true, true, true, true, true, true, true, true, true, false] rfl rfl (any_of HT_.out (by kernel_rfl)) (fun _ _ _ h => h) (Or.inl ⟨by rfl, ?_⟩) ?_ ?_
             rotate_left
             · intro w'
               go_simp
               with_reducible rfl
             rotate_left
             · simp only [Act.put, List.setIfInBounds_toArray, List.set_cons_zero, List.set_cons_succ, i64_w, i32_w]
               rfl
             refine last_ (i := 18) (N := none) #[true, true, true, true, true, true, true, true, true, true, true, true, true, true, true, true, true, true, true] rfl rfl (one_of HT_.out (by kernel_rfl)) (by decide) (fun K hK => ?_)
             have hs30 : w28.cell? ⟨gb589, 1, none⟩ = some (u590001) := (blk_cell BK589.out 1).trans rfl
             have hfs30 := blk_frozen BK589.out 1
             have hns30_0 := NB583_589.out
             have hns30_1 := NB586_589.out
             have hms30_0 := NB589_583.out
             have hms30_1 := NB589_586.out
             refine skip_ (w1 := ?_) (by rfl) rfl ?_ ?_
             rotate_left
             · go_simp
               rfl
             refine hK.out _ _ ?_
             clear hK K
             refine done_ (done_of HT_.out (by kernel_rfl)) ?_
             try go_wp2
             go_roundg k1
             case measure => have := HK1.out; omega
             case rel => exact ⟨(wrap64 (x6_1 + 1)), (y592), (.slice Ao29 y592.length co29), pF, H', ⟨by have := HK1.out; omega⟩, ⟨by (with_reducible repeat (first | apply Kd.N_alloc | apply Kd.N_drewN | apply Kd.N_drew)); exact Kd.N_mono (Kd.N_far (p := ⟨gb589, 1, none⟩) (Kd.N_mono HO_584001.out (fun k_ hk => (⟨hk, hk.1.2.2.2.2⟩ : _ ∧ k_ ≠ gb589))) (fun _ hk => hk.2) (.slice Ao29 y592.length co29)) (fun _ hk => ⟨hk.1.1.1, ⟨hk.1.2, ⟨hk.1.1.2.1, ⟨hk.1.1.2.2.1, ⟨hk.1.1.2.2.2.1, hk.1.1.2.2.2.2⟩⟩⟩⟩⟩)⟩, ⟨by (with_reducible repeat (first | apply Kd.N_alloc | apply Kd.N_drewN | apply Kd.N_drew)); exact Kd.N_mono (Kd.N_far (p := ⟨gb589, 1, none⟩) (Kd.N_mono HO_584002.out (fun k_ hk => (⟨hk, hk.1.2.2.2⟩ : _ ∧ k_ ≠ gb589))) (fun _ hk => hk.2) (.slice Ao29 y592.length co29)) (fun _ hk => ⟨hk.1.1.1, ⟨hk.1.2, ⟨hk.1.1.2.1, ⟨hk.1.1.2.2.1, hk.1.1.2.2.2⟩⟩⟩⟩)⟩, ⟨by (with_reducible repeat (first | apply Kd.N_alloc | apply Kd.N_drewN | apply Kd.N_drew)); exact Kd.N_mono (Kd.N_far (p := ⟨gb589, 1, none⟩) (Kd.N_mono HO594.out (fun k_ hk => (⟨hk, hk.2.2.2.2.2⟩ : _ ∧ k_ ≠ gb589))) (fun _ hk => hk.2) (.slice Ao29 y592.length co29)) (fun _ hk => ⟨hk.1.1, ⟨hk.1.2.1, ⟨hk.1.2.2.1, ⟨hk.1.2.2.2.1, ⟨hk.1.2.2.2.2.1, hk.1.2.2.2.2.2⟩⟩⟩⟩⟩)⟩, ⟨by (with_reducible repeat (first | apply Kd.N_alloc | apply Kd.N_drewN | apply Kd.N_drew)); exact Kd.N_mono (Kd.N_far (p := ⟨gb589, 1, none⟩) (Kd.N_mono HO_590002.out (fun k_ hk => (⟨hk, hk.1.2.2.2⟩ : _ ∧ k_ ≠ gb589))) (fun _ hk => hk.2) (.slice Ao29 y592.length co29)) (fun _ hk => ⟨hk.1.1.1, ⟨hk.1.2, ⟨hk.1.1.2.1, ⟨hk.1.1.2.2.1, hk.1.1.2.2.2⟩⟩⟩⟩)⟩, ⟨by (with_reducible repeat (first | refine blk_drewN ?_ _ | refine blk_drew ?_ | refine blk_alloc ?_ _)); refine blk_far ?_ NB583_589.out _; (with_reducible repeat (first | refine blk_drewN ?_ _ | refine blk_drew ?_ | refine blk_alloc ?_ _)); exact BK583.out⟩, ⟨by (with_reducible repeat (first | refine blk_drewN ?_ _ | refine blk_drew ?_ | refine blk_alloc ?_ _)); refine blk_far ?_ NB586_589.out _; (with_reducible repeat (first | refine blk_drewN ?_ _ | refine blk_drew ?_ | refine blk_alloc ?_ _)); exact BK586.out⟩, ⟨by (with_reducible repeat (first | refine blk_drewN ?_ _ | refine blk_drew ?_ | refine blk_alloc ?_ _)); refine blk_put (cs := #[.int .i64 t576, u590001, .slice Ao11 t580.length co11]) ?_ 1 _ rfl; (with_reducible repeat (first | refine blk_drewN ?_ _ | refine blk_drew ?_ | refine blk_alloc ?_ _)); exact BK589.out⟩, ⟨pB⟩⟩
           · rw [if_neg c23] at H
             exact absurd H (by simp)
         · rw [if_neg c22] at H
           exact absurd H (by simp)
       · rw [if_neg c21] at H
         have c21b0 : decide (x6_1 < (t577.length : Int)) = false := decide_eq_false c21
         clear c21
         obtain ⟨⟨t595, t596⟩, A310, H⟩ := bO H
         replace H : (if t595 = 0 then (if t596 = t585 then ((impl_PackTx.f k1 t576 x590001_1 t580).bind fun bt598 => ((impl_SumOf.f k1 bt598.2).bind fun bt602 => (if t585 = bt602.2 then ((spec_TxSum.f k1 t576 t577 t580).bind fun bt604 => (if t585 = bt604.2 then ((impl_TxFault.f k1 t576 t577 t580).bind fun t606 => (some (t606 == 0))) else (none))) else (none)))) else (none)) else (none)) = some r := H
         have A31 := am A310; clear A310
         by_cases c32 : t595 = 0
         · rw [if_pos c32] at H
           have c32b0 : (t595 == 0) = true := beq_iff_eq.mpr c32
           have c32b1 : (t595 != 0) = false := bne_eq_false_iff_eq.mpr c32
           clear c32
           by_cases c33 : t596 = t585
           · rw [if_pos c33] at H
             have c33b0 : (t596 == t585) = true := beq_iff_eq.mpr c33
             have c33b1 : (t596 != t585) = false := bne_eq_false_iff_eq.mpr c33
             clear c33
             obtain ⟨⟨t598, t599⟩, A340, H⟩ := bO H
             replace H : ((impl_SumOf.f k1 t599).bind fun bt602 => (if t585 = bt602.2 then ((spec_TxSum.f k1 t576 t577 t580).bind fun bt604 => (if t585 = bt604.2 then ((impl_TxFault.f k1 t576 t577 t580).bind fun t606 => (some (t606 == 0))) else (none))) else (none))) = some r := H
             have A34 := am A340; clear A340
             obtain ⟨⟨t602, t603⟩, A350, H⟩ := bO H
             replace H : (if t585 = t603 then ((spec_TxSum.f k1 t576 t577 t580).bind fun bt604 => (if t585 = bt604.2 then ((impl_TxFault.f k1 t576 t577 t580).bind fun t606 => (some (t606 == 0))) else (none))) else (none)) = some r := H
             have A35 := am A350; clear A350
             by_cases c36 : t585 = t603
             · rw [if_pos c36] at H
               have c36b0 : (t585 == t603) = true := beq_iff_eq.mpr c36
               have c36b1 : (t585 != t603) = false := bne_eq_false_iff_eq.mpr c36
               clear c36
               obtain ⟨⟨t604, t605⟩, A370, H⟩ := bO H
               replace H : (if t585 = t605 then ((impl_TxFault.f k1 t576 t577 t580).bind fun t606 => (some (t606 == 0))) else (none)) = some r := H
               have A37 := am A370; clear A370
               by_cases c38 : t585 = t605
               · rw [if_pos c38] at H
                 have c38b0 : (t585 == t605) = true := beq_iff_eq.mpr c38
                 have c38b1 : (t585 != t605) = false := bne_eq_false_iff_eq.mpr c38
                 clear c38
                 obtain ⟨t606, A390, H⟩ := bO H
                 replace H : (some (t606 == 0)) = some r := H
                 have A39 := am A390; clear A390
                 obtain rfl := sj H
                 have hnb40 := NB583_586.out
                 have hnc40 := NB586_583.out
                 have hnb41 := NB583_589.out
                 have hnc41 := NB589_583.out
                 obtain ⟨hcz42_0, hcz42_1, hcz42_2, hfz42_0, hfz42_1, hfz42_2⟩ := bx3 BK583
                 have hnb43 := NB589_586.out
                 have hnc43 := NB586_589.out
                 obtain ⟨hcz44_0, hcz44_1, hcz44_2, hfz44_0, hfz44_1, hfz44_2⟩ := bx3 BK589
                 obtain ⟨Ao45, co45, eo45⟩ := Kd.N_slice HO_590001.out
                 subst eo45
                 try go_wp2_with (first | ((with_reducible refine gC (f := 12) rfl ?_); refine goesL_ (some 54) rfl rfl Try.func12 (by kernel_rfl) rfl #[.agg #[.int .i64 t576, .slice Ao45 x590001_1.length co45, .slice Ao11 t580.length co11]] rfl pA ?_; (with_reducible refine (impl_TxSum.calls k1 t576 _ _ x590001_1 _ _ t580 t595 t596 _ ?side1 ?side2 ?side3 ?side4 A31.out).mono ?_); (case side1 => exact pC (Kd.N_reads' HO_590001.out).2.2); (case side2 => exact (Kd.N_reads' HO_590001.out).2.1); (case side3 => exact pC (Kd.N_reads' HO_590002.out).2.2); (case side4 => exact (Kd.N_reads' HO_590002.out).2.1); rintro e w46 ⟨rfl, hb⟩; refine ⟨_, rfl, ?_⟩; have n_ := t8 (Kd.N_below zd29 hb) (Kd.N_below zd28 hb) (Kd.N_below zd27 hb) (Kd.N_below zd26 hb) (blk_below (g := gb583) (o := .cells #[.int .i64 t576, .slice Ao10 t577.length co10, .slice Ao11 t580.length co11] 27 (0, 0)) (pK BK583) hb) (blk_below (g := gb586) (o := .cells #[.int .i64 t584, .int .i64 t585] 30 (0, 0)) (pK BK586) hb) (blk_below (g := gb589) (o := .cells #[.int .i64 t576, .slice Ao45 x590001_1.length co45, .slice Ao11 t580.length co11] 27 (0, 0)) (pK BK589) hb) (bz_ pB hb); clear HO_584001 HO_584002 HO_590001 HO_590002 BK583 BK586 BK589 HB; obtain ⟨HO_584001, HO_584002, HO_590001, HO_590002, BK583, BK586, BK589, HB⟩ := n_; (try clear hb)) | ((with_reducible refine gate_dst (N := 7) rfl ?_); refine box_event ?hg (N := 7) ?hd (cs := #[.int .i64 0, .int .i64 0]) (t := 30) ?hr ?_; (case hd => rfl); (case hg => rfl); (case hr => first | (go_simp; done) | (go_simp; rfl)); intro gb597 hg w47 hbox hb; have n0_ := am (Kd.N_below (Kd.N_elderB zd29 gb597 (Nat.le_of_eq hg.symm)) hb); have n1_ := am (Kd.N_below (Kd.N_elderB zd28 gb597 (Nat.le_of_eq hg.symm)) hb); have n2_ := am (Kd.N_below (Kd.N_elderB zd27 gb597 (Nat.le_of_eq hg.symm)) hb); have n3_ := am (Kd.N_below (Kd.N_elderB zd26 gb597 (Nat.le_of_eq hg.symm)) hb); have n4_ := am (blk_below (g := gb583) (o := .cells #[.int .i64 t576, .slice Ao10 t577.length co10, .slice Ao11 t580.length co11] 27 (0, 0)) (pK BK583) hb); have n5_ := am (blk_below (g := gb586) (o := .cells #[.int .i64 t584, .int .i64 t585] 30 (0, 0)) (pK BK586) hb); have n6_ := am (blk_below (g := gb589) (o := .cells #[.int .i64 t576, .slice Ao45 x590001_1.length co45, .slice Ao11 t580.length co11] 27 (0, 0)) (pK BK589) hb); have n7_ := am (bz_ pB hb); have n8_ := am (hbox); have n9_ := am ((by rw [hg]; exact (bs_ pB) : w.heap.size ≤ gb597)); have n10_ := am ((by rw [hg]; exact (bs_ pB) : w.heap.size ≤ gb597)); have n11_ := am ((by rw [hg]; exact Nat.ne_of_lt (blk_lt (g := gb583) (o := .cells #[.int .i64 t576, .slice Ao10 t577.length co10, .slice Ao11 t580.length co11] 27 (0, 0)) (pK BK583)) : gb583 ≠ gb597)); have n12_ := am ((by rw [hg]; exact Nat.ne_of_gt (blk_lt (g := gb583) (o := .cells #[.int .i64 t576, .slice Ao10 t577.length co10, .slice Ao11 t580.length co11] 27 (0, 0)) (pK BK583)) : gb597 ≠ gb583)); have n13_ := am ((by rw [hg]; exact Nat.ne_of_lt (blk_lt (g := gb586) (o := .cells #[.int .i64 t584, .int .i64 t585] 30 (0, 0)) (pK BK586)) : gb586 ≠ gb597)); have n14_ := am ((by rw [hg]; exact Nat.ne_of_gt (blk_lt (g := gb586) (o := .cells #[.int .i64 t584, .int .i64 t585] 30 (0, 0)) (pK BK586)) : gb597 ≠ gb586)); have n15_ := am ((by rw [hg]; exact Nat.ne_of_lt (blk_lt (g := gb589) (o := .cells #[.int .i64 t576, .slice Ao45 x590001_1.length co45, .slice Ao11 t580.length co11] 27 (0, 0)) (pK BK589)) : gb589 ≠ gb597)); have n16_ := am ((by rw [hg]; exact Nat.ne_of_gt (blk_lt (g := gb589) (o := .cells #[.int .i64 t576, .slice Ao45 x590001_1.length co45, .slice Ao11 t580.length co11] 27 (0, 0)) (pK BK589)) : gb597 ≠ gb589)); clear HO_584001; clear HO_584002; clear HO_590001; clear HO_590002; clear BK583; clear BK586; clear BK589; clear HB; have HO_584001 := n0_; have HO_584002 := n1_; have HO_590001 := n2_; have HO_590002 := n3_; have BK583 := n4_; have BK586 := n5_; have BK589 := n6_; have HB := n7_; have BK597 := n8_; have GW597 := n9_; have GE597 := n10_; have NB583_597 := n11_; have NB597_583 := n12_; have NB586_597 := n13_; have NB597_586 := n14_; have NB589_597 := n15_; have NB597_589 := n16_; clear n0_ n1_ n2_ n3_ n4_ n5_ n6_ n7_ n8_ n9_ n10_ n11_ n12_ n13_ n14_ n15_ n16_; clear hb hbox hg; have hnb48 := NB597_583.out; have hnc48 := NB583_597.out; have hnb49 := NB597_586.out; have hnc49 := NB586_597.out; have hnb50 := NB597_589.out; have hnc50 := NB589_597.out; have hcz51_0 : w47.cell? ⟨gb597, 0, none⟩ = some (.int .i64 0) := (blk_cell BK597.out 0).trans rfl; have hcz51_1 : w47.cell? ⟨gb597, 1, none⟩ = some (.int .i64 0) := (blk_cell BK597.out 1).trans rfl; have hfz51_0 := blk_frozen BK597.out 0; have hfz51_1 := blk_frozen BK597.out 1))
                 have n0_ : Aside0 (Kd.N k34 34 ((w47.setCell ⟨gb597, 0, none⟩ (.int .i64 t595)).setCell ⟨gb597, 1, none⟩ (.int .i64 t596)) w.heap.size (fun k_ => some k_ ≠ (.slice Ao11 t580.length co11 : Value).ownBlock ∧ some k_ ≠ (.slice Ao45 x590001_1.length co45 : Value).ownBlock ∧ some k_ ≠ (.slice Ao11 t580.length co11 : Value).ownBlock ∧ k_ ≠ gb583 ∧ k_ ≠ gb586 ∧ k_ ≠ gb589 ∧ k_ ≠ gb597) (.slice Ao10 t577.length co10) t577) := ⟨by (with_reducible repeat (first | apply Kd.N_alloc | apply Kd.N_drewN | apply Kd.N_drew)); exact Kd.N_mono (Kd.N_far (p := ⟨gb597, 1, none⟩) (Kd.N_far (p := ⟨gb597, 0, none⟩) (Kd.N_mono HO_584001.out (fun k_ hk => (⟨hk, hk.2⟩ : _ ∧ k_ ≠ gb597))) (fun _ hk => hk.2) (.int .i64 t595)) (fun _ hk => hk.2) (.int .i64 t596)) (fun _ hk => ⟨hk.1.1.1, ⟨hk.1.1.2.1, ⟨hk.1.1.2.2.1, ⟨hk.1.1.2.2.2.1, ⟨hk.1.1.2.2.2.2.1, ⟨hk.1.1.2.2.2.2.2, hk.1.2⟩⟩⟩⟩⟩⟩)⟩
                 have n1_ : Aside0 (Kd.N k86 86 ((w47.setCell ⟨gb597, 0, none⟩ (.int .i64 t595)).setCell ⟨gb597, 1, none⟩ (.int .i64 t596)) w.heap.size (fun k_ => some k_ ≠ (.slice Ao10 t577.length co10 : Value).ownBlock ∧ some k_ ≠ (.slice Ao45 x590001_1.length co45 : Value).ownBlock ∧ k_ ≠ gb583 ∧ k_ ≠ gb586 ∧ k_ ≠ gb589 ∧ k_ ≠ gb597) (.slice Ao11 t580.length co11) t580) := ⟨by (with_reducible repeat (first | apply Kd.N_alloc | apply Kd.N_drewN | apply Kd.N_drew)); exact Kd.N_mono (Kd.N_far (p := ⟨gb597, 1, none⟩) (Kd.N_far (p := ⟨gb597, 0, none⟩) (Kd.N_mono HO_584002.out (fun k_ hk => (⟨hk, hk.2⟩ : _ ∧ k_ ≠ gb597))) (fun _ hk => hk.2) (.int .i64 t595)) (fun _ hk => hk.2) (.int .i64 t596)) (fun _ hk => ⟨hk.1.1.1, ⟨hk.1.1.2.1, ⟨hk.1.1.2.2.1, ⟨hk.1.1.2.2.2.1, ⟨hk.1.1.2.2.2.2, hk.1.2⟩⟩⟩⟩⟩)⟩
                 have n2_ : Aside0 (Kd.N k34 34 ((w47.setCell ⟨gb597, 0, none⟩ (.int .i64 t595)).setCell ⟨gb597, 1, none⟩ (.int .i64 t596)) w.heap.size (fun k_ => some k_ ≠ (.slice Ao10 t577.length co10 : Value).ownBlock ∧ some k_ ≠ (.slice Ao11 t580.length co11 : Value).ownBlock ∧ some k_ ≠ (.slice Ao11 t580.length co11 : Value).ownBlock ∧ k_ ≠ gb583 ∧ k_ ≠ gb586 ∧ k_ ≠ gb589 ∧ k_ ≠ gb597) (.slice Ao45 x590001_1.length co45) x590001_1) := ⟨by (with_reducible repeat (first | apply Kd.N_alloc | apply Kd.N_drewN | apply Kd.N_drew)); exact Kd.N_mono (Kd.N_far (p := ⟨gb597, 1, none⟩) (Kd.N_far (p := ⟨gb597, 0, none⟩) (Kd.N_mono HO_590001.out (fun k_ hk => (⟨hk, hk.2⟩ : _ ∧ k_ ≠ gb597))) (fun _ hk => hk.2) (.int .i64 t595)) (fun _ hk => hk.2) (.int .i64 t596)) (fun _ hk => ⟨hk.1.1.1, ⟨hk.1.1.2.1, ⟨hk.1.1.2.2.1, ⟨hk.1.1.2.2.2.1, ⟨hk.1.1.2.2.2.2.1, ⟨hk.1.1.2.2.2.2.2, hk.1.2⟩⟩⟩⟩⟩⟩)⟩
                 have n3_ : Aside0 (Kd.N k86 86 ((w47.setCell ⟨gb597, 0, none⟩ (.int .i64 t595)).setCell ⟨gb597, 1, none⟩ (.int .i64 t596)) w.heap.size (fun k_ => some k_ ≠ (.slice Ao10 t577.length co10 : Value).ownBlock ∧ some k_ ≠ (.slice Ao45 x590001_1.length co45 : Value).ownBlock ∧ k_ ≠ gb583 ∧ k_ ≠ gb586 ∧ k_ ≠ gb589 ∧ k_ ≠ gb597) (.slice Ao11 t580.length co11) t580) := ⟨by (with_reducible repeat (first | apply Kd.N_alloc | apply Kd.N_drewN | apply Kd.N_drew)); exact Kd.N_mono (Kd.N_far (p := ⟨gb597, 1, none⟩) (Kd.N_far (p := ⟨gb597, 0, none⟩) (Kd.N_mono HO_590002.out (fun k_ hk => (⟨hk, hk.2⟩ : _ ∧ k_ ≠ gb597))) (fun _ hk => hk.2) (.int .i64 t595)) (fun _ hk => hk.2) (.int .i64 t596)) (fun _ hk => ⟨hk.1.1.1, ⟨hk.1.1.2.1, ⟨hk.1.1.2.2.1, ⟨hk.1.1.2.2.2.1, ⟨hk.1.1.2.2.2.2, hk.1.2⟩⟩⟩⟩⟩)⟩
                 have n4_ : Aside0 (((w47.setCell ⟨gb597, 0, none⟩ (.int .i64 t595)).setCell ⟨gb597, 1, none⟩ (.int .i64 t596)).heap[gb583]? = some (.cells #[.int .i64 t576, .slice Ao10 t577.length co10, .slice Ao11 t580.length co11] 27 (0, 0))) := ⟨by (with_reducible repeat (first | refine blk_drewN ?_ _ | refine blk_drew ?_ | refine blk_alloc ?_ _)); refine blk_far ?_ NB583_597.out _; (with_reducible repeat (first | refine blk_drewN ?_ _ | refine blk_drew ?_ | refine blk_alloc ?_ _)); refine blk_far ?_ NB583_597.out _; (with_reducible repeat (first | refine blk_drewN ?_ _ | refine blk_drew ?_ | refine blk_alloc ?_ _)); exact BK583.out⟩
                 have n5_ : Aside0 (((w47.setCell ⟨gb597, 0, none⟩ (.int .i64 t595)).setCell ⟨gb597, 1, none⟩ (.int .i64 t596)).heap[gb586]? = some (.cells #[.int .i64 t584, .int .i64 t585] 30 (0, 0))) := ⟨by (with_reducible repeat (first | refine blk_drewN ?_ _ | refine blk_drew ?_ | refine blk_alloc ?_ _)); refine blk_far ?_ NB586_597.out _; (with_reducible repeat (first | refine blk_drewN ?_ _ | refine blk_drew ?_ | refine blk_alloc ?_ _)); refine blk_far ?_ NB586_597.out _; (with_reducible repeat (first | refine blk_drewN ?_ _ | refine blk_drew ?_ | refine blk_alloc ?_ _)); exact BK586.out⟩
                 have n6_ : Aside0 (((w47.setCell ⟨gb597, 0, none⟩ (.int .i64 t595)).setCell ⟨gb597, 1, none⟩ (.int .i64 t596)).heap[gb589]? = some (.cells #[.int .i64 t576, .slice Ao45 x590001_1.length co45, .slice Ao11 t580.length co11] 27 (0, 0))) := ⟨by (with_reducible repeat (first | refine blk_drewN ?_ _ | refine blk_drew ?_ | refine blk_alloc ?_ _)); refine blk_far ?_ NB589_597.out _; (with_reducible repeat (first | refine blk_drewN ?_ _ | refine blk_drew ?_ | refine blk_alloc ?_ _)); refine blk_far ?_ NB589_597.out _; (with_reducible repeat (first | refine blk_drewN ?_ _ | refine blk_drew ?_ | refine blk_alloc ?_ _)); exact BK589.out⟩
                 have n7_ : Aside0 (((w47.setCell ⟨gb597, 0, none⟩ (.int .i64 t595)).setCell ⟨gb597, 1, none⟩ (.int .i64 t596)).heap[gb597]? = some (.cells #[.int .i64 t595, .int .i64 t596] 30 (0, 0))) := ⟨by (with_reducible repeat (first | refine blk_drewN ?_ _ | refine blk_drew ?_ | refine blk_alloc ?_ _)); refine blk_put (cs := #[.int .i64 t595, .int .i64 0]) ?_ 1 _ rfl; (with_reducible repeat (first | refine blk_drewN ?_ _ | refine blk_drew ?_ | refine blk_alloc ?_ _)); refine blk_put (cs := #[.int .i64 0, .int .i64 0]) ?_ 0 _ rfl; (with_reducible repeat (first | refine blk_drewN ?_ _ | refine blk_drew ?_ | refine blk_alloc ?_ _)); exact BK597.out⟩
                 have n8_ : Aside0 (Below w.heap.size w ((w47.setCell ⟨gb597, 0, none⟩ (.int .i64 t595)).setCell ⟨gb597, 1, none⟩ (.int .i64 t596))) := ⟨pB⟩
                 (try clear HO_584001); (try clear HO_584002); (try clear HO_590001); (try clear HO_590002); (try clear BK583); (try clear BK586); (try clear BK589); (try clear BK597); (try clear HB)
                 generalize ((w47.setCell ⟨gb597, 0, none⟩ (.int .i64 t595)).setCell ⟨gb597, 1, none⟩ (.int .i64 t596)) = w52 at n0_ n1_ n2_ n3_ n4_ n5_ n6_ n7_ n8_ ⊢
                 have HO_584001 := n0_
                 have HO_584002 := n1_
                 have HO_590001 := n2_
                 have HO_590002 := n3_
                 have BK583 := n4_
                 have BK586 := n5_
                 have BK589 := n6_
                 have BK597 := n7_
                 have HB := n8_
                 clear n0_ n1_ n2_ n3_ n4_ n5_ n6_ n7_ n8_
                 have n_ := t9 (Kd.N_drew HO_584001.out) (Kd.N_drew HO_584002.out) (Kd.N_drew HO_590001.out) (Kd.N_drew HO_590002.out) (blk_drew BK583.out) (blk_drew BK586.out) (blk_drew BK589.out) (blk_drew BK597.out) (below_drew1 HB.out)
                 clear HO_584001 HO_584002 HO_590001 HO_590002 BK583 BK586 BK589 BK597 HB; obtain ⟨HO_584001, HO_584002, HO_590001, HO_590002, BK583, BK586, BK589, BK597, HB⟩ := n_
                 refine start_ (n := 34) (S := fun w' => w'.cell? ⟨gb597, 0, none⟩ = some (.int .i64 t595) ∧ w'.cell? ⟨gb597, 1, none⟩ = some (.int .i64 t596) ∧ w'.cell? ⟨gb586, 0, none⟩ = some (.int .i64 t584) ∧ w'.cell? ⟨gb586, 1, none⟩ = some (.int .i64 t585) ∧ w'.cell? ⟨gb589, 0, none⟩ = some (.int .i64 t576) ∧ w'.cell? ⟨gb589, 1, none⟩ = some (.slice Ao45 x590001_1.length co45) ∧ w'.cell? ⟨gb589, 2, none⟩ = some (.slice Ao11 t580.length co11) ∧ w'.cell? ⟨gb583, 0, none⟩ = some (.int .i64 t576) ∧ w'.cell? ⟨gb583, 1, none⟩ = some (.slice Ao10 t577.length co10) ∧ w'.cell? ⟨gb583, 2, none⟩ = some (.slice Ao11 t580.length co11)) (ds := []) #[false, false, false, false, false, false, false, false, false, false, false, false, false, false, false, false, false, false, false, false, false, false, false, false, false, false, false, false, false, false, false, false, false, false] (by kernel_rfl) rfl rfl ⟨(blk_cell BK597.out 0).trans rfl, (blk_cell BK597.out 1).trans rfl, (blk_cell BK586.out 0).trans rfl, (blk_cell BK586.out 1).trans rfl, (blk_cell BK589.out 0).trans rfl, (blk_cell BK589.out 1).trans rfl, (blk_cell BK589.out 2).trans rfl, (blk_cell BK583.out 0).trans rfl, (blk_cell BK583.out 1).trans rfl, (blk_cell BK583.out 2).trans rfl⟩ (fun hHeld => ?_); refine with_tabW laws_FnNames.tab13 laws_FnNames.bits13 (fun HT_ HW_ => ?_)
                 generalize w52.drew = w53 at HO_584001 HO_584002 HO_590001 HO_590002 BK583 BK586 BK589 BK597 HB hHeld ⊢
                 refine pure_ (i := 0) (N := some 55) (v := ?_) (a' := ?_) #[true, false, false, false, false, false, false, false, false, false, false, false, false, false, false, false, false, false, false, false, false, false, false, false, false, false, false, false, false, false, false, false, false, false] rfl rfl (any_of HT_.out (by kernel_rfl)) (fun _ _ _ h => h) (Or.inl ⟨by rfl, ?_⟩) ?_ ?_
                 rotate_left
                 · intro w'
                   go_simp
                   with_reducible rfl
                 rotate_left
                 · simp only [Act.put, List.setIfInBounds_toArray, List.set_cons_zero, List.set_cons_succ, i64_w, i32_w]
                   rfl
                 refine take_ (i := 1) (N := some 56) (v := ?_) (a' := ?_) #[true, true, false, false, false, false, false, false, false, false, false, false, false, false, false, false, false, false, false, false, false, false, false, false, false, false, false, false, false, false, false, false, false, false] rfl rfl (take_ofW HT_.out HW_.out (by kernel_rfl)) (fun _ _ _ h => h) (Or.inl ⟨by rfl, ?_⟩) hHeld ?_ ?_
                 rotate_left
                 · rintro w' ⟨s0, s1, s2, s3, s4, s5, s6, s7, s8, s9⟩
                   go_simp
                   with_reducible rfl
                 rotate_left
                 · simp only [Act.put, List.setIfInBounds_toArray, List.set_cons_zero, List.set_cons_succ, i64_w, i32_w]
                   rfl
                 refine pure_ (i := 2) (N := some 57) (v := ?_) (a' := ?_) #[true, true, true, false, false, false, false, false, false, false, false, false, false, false, false, false, false, false, false, false, false, false, false, false, false, false, false, false, false, false, false, false, false, false] rfl rfl (any_of HT_.out (by kernel_rfl)) (fun _ _ _ h => h) (Or.inl ⟨by rfl, ?_⟩) ?_ ?_
                 rotate_left
                 · intro w'
                   go_simp
                   with_reducible rfl
                 rotate_left
                 · simp only [Act.put, List.setIfInBounds_toArray, List.set_cons_zero, List.set_cons_succ, i64_w, i32_w]
                   rfl
                 refine pure_ (i := 3) (N := some 58) (v := ?_) (a' := ?_) #[true, true, true, true, false, false, false, false, false, false, false, false, false, false, false, false, false, false, false, false, false, false, false, false, false, false, false, false, false, false, false, false, false, false] rfl rfl (any_of HT_.out (by kernel_rfl)) (fun _ _ _ h => h) (Or.inl ⟨by rfl, ?_⟩) ?_ ?_
                 rotate_left
                 · intro w'
                   go_simp
                   with_reducible rfl
                 rotate_left
                 · simp only [Act.put, List.setIfInBounds_toArray, List.set_cons_zero, List.set_cons_succ, i64_w, i32_w]
                   rfl
                 refine pure_ (i := 4) (N := some 59) (v := ?_) (a' := ?_) #[true, true, true, true, true, false, false, false, false, false, false, false, false, false, false, false, false, false, false, false, false, false, false, false, false, false, false, false, false, false, false, false, false, false] rfl rfl (any_of HT_.out (by kernel_rfl)) (fun _ _ _ h => h) (Or.inl ⟨by rfl, ?_⟩) ?_ ?_
                 rotate_left
                 · intro w'
                   go_simp
                   with_reducible rfl
                 rotate_left
                 · simp only [Act.put, List.setIfInBounds_toArray, List.set_cons_zero, List.set_cons_succ, i64_w, i32_w]
                   rfl
                 refine pure_ (i := 6) (N := some 61) (v := ?_) (a' := ?_) #[true, true, true, true, true, false, true, false, false, false, false, false, false, false, false, false, false, false, false, false, false, false, false, false, false, false, false, false, false, false, false, false, false, false] rfl rfl (any_of HT_.out (by kernel_rfl)) (fun _ _ _ h => h) (Or.inl ⟨by rfl, ?_⟩) ?_ ?_
                 rotate_left
                 · intro w'
                   go_simp
                   with_reducible rfl
                 rotate_left
                 · simp only [Act.put, List.setIfInBounds_toArray, List.set_cons_zero, List.set_cons_succ, i64_w, i32_w]
                   rfl
                 refine take_ (i := 5) (N := some 60) (v := ?_) (a' := ?_) #[true, true, true, true, true, true, true, false, false, false, false, false, false, false, false, false, false, false, false, false, false, false, false, false, false, false, false, false, false, false, false, false, false, false] rfl rfl (take_ofW HT_.out HW_.out (by kernel_rfl)) (fun _ _ _ h => h) (Or.inl ⟨by rfl, ?_⟩) hHeld ?_ ?_
                 rotate_left
                 · rintro w' ⟨s0, s1, s2, s3, s4, s5, s6, s7, s8, s9⟩
                   go_simp
                   with_reducible rfl
                 rotate_left
                 · simp only [Act.put, List.setIfInBounds_toArray, List.set_cons_zero, List.set_cons_succ, i64_w, i32_w]
                   rfl
                 refine take_ (i := 7) (N := some 62) (v := ?_) (a' := ?_) #[true, true, true, true, true, true, true, true, false, false, false, false, false, false, false, false, false, false, false, false, false, false, false, false, false, false, false, false, false, false, false, false, false, false] rfl rfl (take_ofW HT_.out HW_.out (by kernel_rfl)) (fun _ _ _ h => h) (Or.inl ⟨by rfl, ?_⟩) hHeld ?_ ?_
                 rotate_left
                 · rintro w' ⟨s0, s1, s2, s3, s4, s5, s6, s7, s8, s9⟩
                   go_simp
                   with_reducible rfl
                 rotate_left
                 · simp only [Act.put, List.setIfInBounds_toArray, List.set_cons_zero, List.set_cons_succ, i64_w, i32_w]
                   rfl
                 refine pure_ (i := 8) (N := some 63) (v := ?_) (a' := ?_) #[true, true, true, true, true, true, true, true, true, false, false, false, false, false, false, false, false, false, false, false, false, false, false, false, false, false, false, false, false, false, false, false, false, false] rfl rfl (any_of HT_.out (by kernel_rfl)) (fun _ _ _ h => h) (Or.inl ⟨by rfl, ?_⟩) ?_ ?_
                 rotate_left
                 · intro w'
                   go_simp
                   with_reducible rfl
                 rotate_left
                 · simp only [Act.put, List.setIfInBounds_toArray, List.set_cons_zero, List.set_cons_succ, i64_w, i32_w]
                   rfl
                 refine pure_ (i := 9) (N := some 64) (v := ?_) (a' := ?_) #[true, true, true, true, true, true, true, true, true, true, false, false, false, false, false, false, false, false, false, false, false, false, false, false, false, false, false, false, false, false, false, false, false, false] rfl rfl (any_of HT_.out (by kernel_rfl)) (fun _ _ _ h => h) (Or.inl ⟨by rfl, ?_⟩) ?_ ?_
                 rotate_left
                 · intro w'
                   go_simp
                   with_reducible rfl
                 rotate_left
                 · simp only [Act.put, List.setIfInBounds_toArray, List.set_cons_zero, List.set_cons_succ, i64_w, i32_w]
                   rfl
                 refine pure_ (i := 10) (N := some 65) (v := ?_) (a' := ?_) #[true, true, true, true, true, true, true, true, true, true, true, false, false, false, false, false, false, false, false, false, false, false, false, false, false, false, false, false, false, false, false, false, false, false] rfl rfl (any_of HT_.out (by kernel_rfl)) (fun _ _ _ h => h) (Or.inl ⟨by rfl, ?_⟩) ?_ ?_
                 rotate_left
                 · intro w'
                   go_simp
                   with_reducible rfl
                 rotate_left
                 · simp only [Act.put, List.setIfInBounds_toArray, List.set_cons_zero, List.set_cons_succ, i64_w, i32_w]
                   rfl
                 refine pure_ (i := 11) (N := some 66) (v := ?_) (a' := ?_) #[true, true, true, true, true, true, true, true, true, true, true, true, false, false, false, false, false, false, false, false, false, false, false, false, false, false, false, false, false, false, false, false, false, false] rfl rfl (any_of HT_.out (by kernel_rfl)) (fun _ _ _ h => h) (Or.inl ⟨by rfl, ?_⟩) ?_ ?_
                 rotate_left
                 · intro w'
                   go_simp
                   with_reducible rfl
                 rotate_left
                 · simp only [Act.put, List.setIfInBounds_toArray, List.set_cons_zero, List.set_cons_succ, i64_w, i32_w]
                   rfl
                 refine take_ (i := 12) (N := some 67) (v := ?_) (a' := ?_) #[true, true, true, true, true, true, true, true, true, true, true, true, true, false, false, false, false, false, false, false, false, false, false, false, false, false, false, false, false, false, false, false, false, false] rfl rfl (take_ofW HT_.out HW_.out (by kernel_rfl)) (fun _ _ _ h => h) (Or.inl ⟨by rfl, ?_⟩) hHeld ?_ ?_
                 rotate_left
                 · rintro w' ⟨s0, s1, s2, s3, s4, s5, s6, s7, s8, s9⟩
                   go_simp
                   with_reducible rfl
                 rotate_left
                 · simp only [Act.put, List.setIfInBounds_toArray, List.set_cons_zero, List.set_cons_succ, i64_w, i32_w]
                   rfl
                 refine take_ (i := 13) (N := some 68) (v := ?_) (a' := ?_) #[true, true, true, true, true, true, true, true, true, true, true, true, true, true, false, false, false, false, false, false, false, false, false, false, false, false, false, false, false, false, false, false, false, false] rfl rfl (take_ofW HT_.out HW_.out (by kernel_rfl)) (fun _ _ _ h => h) (Or.inl ⟨by rfl, ?_⟩) hHeld ?_ ?_
                 rotate_left
                 · rintro w' ⟨s0, s1, s2, s3, s4, s5, s6, s7, s8, s9⟩
                   go_simp
                   with_reducible rfl
                 rotate_left
                 · simp only [Act.put, List.setIfInBounds_toArray, List.set_cons_zero, List.set_cons_succ, i64_w, i32_w]
                   rfl
                 refine one_ (i := 14) (N := some 69) #[true, true, true, true, true, true, true, true, true, true, true, true, true, true, true, false, false, false, false, false, false, false, false, false, false, false, false, false, false, false, false, false, false, false] rfl rfl (one_of HT_.out (by kernel_rfl)) (by decide) (fun K hK => ?_)
                 refine goes_ Try.func15 (by kernel_rfl) rfl #[.agg #[.int .i64 t576, .slice Ao45 x590001_1.length co45, .slice Ao11 t580.length co11]] (by rfl) rfl rfl pA ?_
                 with_reducible refine (impl_PackTx.calls k1 t576 _ _ x590001_1 _ _ t580 t598 t599 _ ?side1 ?side2 ?side3 ?side4 A34.out).mono ?_
                 (case side1 => exact pC (Kd.N_reads' HO_590001.out).2.2)
                 (case side2 => exact (Kd.N_reads' HO_590001.out).2.1)
                 (case side3 => exact pC (Kd.N_reads' HO_590002.out).2.2)
                 (case side4 => exact (Kd.N_reads' HO_590002.out).2.1)
                 rintro e w54 ⟨v600, rfl, ho0, hb⟩
                 refine ⟨_, rfl, ?_⟩
                 have n_ := t10 (Kd.N_elder' zd29 (rB ho0) hb) (Kd.N_elder' zd28 (rB ho0) hb) (Kd.N_elder' zd27 (rB ho0) hb) (Kd.N_elder' zd26 (rB ho0) hb) (rL ho0 (bs_ pB)) (blk_below (g := gb583) (o := .cells #[.int .i64 t576, .slice Ao10 t577.length co10, .slice Ao11 t580.length co11] 27 (0, 0)) (pK BK583) hb) (blk_below (g := gb586) (o := .cells #[.int .i64 t584, .int .i64 t585] 30 (0, 0)) (pK BK586) hb) (blk_below (g := gb589) (o := .cells #[.int .i64 t576, .slice Ao45 x590001_1.length co45, .slice Ao11 t580.length co11] 27 (0, 0)) (pK BK589) hb) (blk_below (g := gb597) (o := .cells #[.int .i64 t595, .int .i64 t596] 30 (0, 0)) (pK BK597) hb) (bz_ pB hb)
                 clear HO_584001 HO_584002 HO_590001 HO_590002 BK583 BK586 BK589 BK597 HB; obtain ⟨HO_584001, HO_584002, HO_590001, HO_590002, HO601, BK583, BK586, BK589, BK597, HB⟩ := n_; (try clear hb); (try clear hb2); (try clear hk); (try clear hi); (try clear ho0)
                 obtain ⟨Ao55, co55, eo55⟩ := rS HO601.out
                 (first | subst eo55 | (injection eo55 with f1_ f2_ f3_; have f4_ := f1_.symm; have f5_ := f3_.symm; clear f1_ f2_ f3_; subst f4_; subst f5_))
                 refine hK.out _ _ ⟨(blk_cell BK597.out 0).trans rfl, (blk_cell BK597.out 1).trans rfl, (blk_cell BK586.out 0).trans rfl, (blk_cell BK586.out 1).trans rfl, (blk_cell BK589.out 0).trans rfl, (blk_cell BK589.out 1).trans rfl, (blk_cell BK589.out 2).trans rfl, (blk_cell BK583.out 0).trans rfl, (blk_cell BK583.out 1).trans rfl, (blk_cell BK583.out 2).trans rfl⟩ (fun hHeld => ?_)
                 clear hK K
                 refine norm_ (a' := ?_) ?_ ?_
                 rotate_left
                 · show Act.put _ (some 69) _ = _
                   simp only [Act.put, List.setIfInBounds_toArray, List.set_cons_zero, List.set_cons_succ, i64_w, i32_w]
                   rfl
                 refine pure_ (i := 15) (N := some 70) (v := ?_) (a' := ?_) #[true, true, true, true, true, true, true, true, true, true, true, true, true, true, true, true, false, false, false, false, false, false, false, false, false, false, false, false, false, false, false, false, false, false] rfl rfl (any_of HT_.out (by kernel_rfl)) (fun _ _ _ h => h) (Or.inl ⟨by rfl, ?_⟩) ?_ ?_
                 rotate_left
                 · intro w'
                   go_simp
                   with_reducible rfl
                 rotate_left
                 · simp only [Act.put, List.setIfInBounds_toArray, List.set_cons_zero, List.set_cons_succ, i64_w, i32_w]
                   rfl
                 refine one_ (i := 16) (N := some 71) #[true, true, true, true, true, true, true, true, true, true, true, true, true, true, true, true, true, false, false, false, false, false, false, false, false, false, false, false, false, false, false, false, false, false] rfl rfl (one_of HT_.out (by kernel_rfl)) (by decide) (fun K hK => ?_)
                 refine goes_ Try.func14 (by kernel_rfl) rfl #[.slice Ao55 t599.length co55] (by rfl) rfl rfl pA ?_
                 with_reducible refine (impl_SumOf.calls k1 _ _ t599 t602 t603 _ ?side1 ?side2 A35.out).mono ?_
                 (case side1 => exact pC (rr HO601.out).2.2)
                 (case side2 => exact (rr HO601.out).2.1)
                 rintro e w56 ⟨rfl, hb⟩
                 refine ⟨_, rfl, ?_⟩
                 have n_ := t10 (Kd.N_below zd29 hb) (Kd.N_below zd28 hb) (Kd.N_below zd27 hb) (Kd.N_below zd26 hb) (Kd.R_below (pR HO601) hb) (blk_below (g := gb583) (o := .cells #[.int .i64 t576, .slice Ao10 t577.length co10, .slice Ao11 t580.length co11] 27 (0, 0)) (pK BK583) hb) (blk_below (g := gb586) (o := .cells #[.int .i64 t584, .int .i64 t585] 30 (0, 0)) (pK BK586) hb) (blk_below (g := gb589) (o := .cells #[.int .i64 t576, .slice Ao45 x590001_1.length co45, .slice Ao11 t580.length co11] 27 (0, 0)) (pK BK589) hb) (blk_below (g := gb597) (o := .cells #[.int .i64 t595, .int .i64 t596] 30 (0, 0)) (pK BK597) hb) (bz_ pB hb)
                 clear HO_584001 HO_584002 HO_590001 HO_590002 HO601 BK583 BK586 BK589 BK597 HB; obtain ⟨HO_584001, HO_584002, HO_590001, HO_590002, HO601, BK583, BK586, BK589, BK597, HB⟩ := n_; (try clear hb); (try clear hb2); (try clear hk); (try clear hi)
                 refine hK.out _ _ ⟨(blk_cell BK597.out 0).trans rfl, (blk_cell BK597.out 1).trans rfl, (blk_cell BK586.out 0).trans rfl, (blk_cell BK586.out 1).trans rfl, (blk_cell BK589.out 0).trans rfl, (blk_cell BK589.out 1).trans rfl, (blk_cell BK589.out 2).trans rfl, (blk_cell BK583.out 0).trans rfl, (blk_cell BK583.out 1).trans rfl, (blk_cell BK583.out 2).trans rfl⟩ (fun hHeld => ?_)
                 clear hK K
                 refine norm_ (a' := ?_) ?_ ?_
                 rotate_left
                 · show Act.put _ (some 71) _ = _
                   simp only [Act.put, List.setIfInBounds_toArray, List.set_cons_zero, List.set_cons_succ, i64_w, i32_w]
                   rfl
                 refine pure_ (i := 17) (N := some 72) (v := ?_) (a' := ?_) #[true, true, true, true, true, true, true, true, true, true, true, true, true, true, true, true, true, true, false, false, false, false, false, false, false, false, false, false, false, false, false, false, false, false] rfl rfl (any_of HT_.out (by kernel_rfl)) (fun _ _ _ h => h) (Or.inl ⟨by rfl, ?_⟩) ?_ ?_
                 rotate_left
                 · intro w'
                   go_simp
                   with_reducible rfl
                 rotate_left
                 · simp only [Act.put, List.setIfInBounds_toArray, List.set_cons_zero, List.set_cons_succ, i64_w, i32_w]
                   rfl
                 refine pure_ (i := 18) (N := some 73) (v := ?_) (a' := ?_) #[true, true, true, true, true, true, true, true, true, true, true, true, true, true, true, true, true, true, true, false, false, false, false, false, false, false, false, false, false, false, false, false, false, false] rfl rfl (any_of HT_.out (by kernel_rfl)) (fun _ _ _ h => h) (Or.inl ⟨by rfl, ?_⟩) ?_ ?_
                 rotate_left
                 · intro w'
                   go_simp
                   with_reducible rfl
                 rotate_left
                 · simp only [Act.put, List.setIfInBounds_toArray, List.set_cons_zero, List.set_cons_succ, i64_w, i32_w]
                   rfl
                 refine pure_ (i := 19) (N := some 74) (v := ?_) (a' := ?_) #[true, true, true, true, true, true, true, true, true, true, true, true, true, true, true, true, true, true, true, true, false, false, false, false, false, false, false, false, false, false, false, false, false, false] rfl rfl (any_of HT_.out (by kernel_rfl)) (fun _ _ _ h => h) (Or.inl ⟨by rfl, ?_⟩) ?_ ?_
                 rotate_left
                 · intro w'
                   go_simp
                   with_reducible rfl
                 rotate_left
                 · simp only [Act.put, List.setIfInBounds_toArray, List.set_cons_zero, List.set_cons_succ, i64_w, i32_w]
                   rfl
                 refine pure_ (i := 20) (N := some 75) (v := ?_) (a' := ?_) #[true, true, true, true, true, true, true, true, true, true, true, true, true, true, true, true, true, true, true, true, true, false, false, false, false, false, false, false, false, false, false, false, false, false] rfl rfl (any_of HT_.out (by kernel_rfl)) (fun _ _ _ h => h) (Or.inl ⟨by rfl, ?_⟩) ?_ ?_
                 rotate_left
                 · intro w'
                   go_simp
                   with_reducible rfl
                 rotate_left
                 · simp only [Act.put, List.setIfInBounds_toArray, List.set_cons_zero, List.set_cons_succ, i64_w, i32_w]
                   rfl
                 refine pure_ (i := 21) (N := some 76) (v := ?_) (a' := ?_) #[true, true, true, true, true, true, true, true, true, true, true, true, true, true, true, true, true, true, true, true, true, true, false, false, false, false, false, false, false, false, false, false, false, false] rfl rfl (any_of HT_.out (by kernel_rfl)) (fun _ _ _ h => h) (Or.inl ⟨by rfl, ?_⟩) ?_ ?_
                 rotate_left
                 · intro w'
                   go_simp
                   with_reducible rfl
                 rotate_left
                 · simp only [Act.put, List.setIfInBounds_toArray, List.set_cons_zero, List.set_cons_succ, i64_w, i32_w]
                   rfl
                 refine take_ (i := 22) (N := some 77) (v := ?_) (a' := ?_) #[true, true, true, true, true, true, true, true, true, true, true, true, true, true, true, true, true, true, true, true, true, true, true, false, false, false, false, false, false, false, false, false, false, false] rfl rfl (take_ofW HT_.out HW_.out (by kernel_rfl)) (fun _ _ _ h => h) (Or.inl ⟨by rfl, ?_⟩) hHeld ?_ ?_
                 rotate_left
                 · rintro w' ⟨s0, s1, s2, s3, s4, s5, s6, s7, s8, s9⟩
                   go_simp
                   with_reducible rfl
                 rotate_left
                 · simp only [Act.put, List.setIfInBounds_toArray, List.set_cons_zero, List.set_cons_succ, i64_w, i32_w]
                   rfl
                 refine take_ (i := 23) (N := some 78) (v := ?_) (a' := ?_) #[true, true, true, true, true, true, true, true, true, true, true, true, true, true, true, true, true, true, true, true, true, true, true, true, false, false, false, false, false, false, false, false, false, false] rfl rfl (take_ofW HT_.out HW_.out (by kernel_rfl)) (fun _ _ _ h => h) (Or.inl ⟨by rfl, ?_⟩) hHeld ?_ ?_
                 rotate_left
                 · rintro w' ⟨s0, s1, s2, s3, s4, s5, s6, s7, s8, s9⟩
                   go_simp
                   with_reducible rfl
                 rotate_left
                 · simp only [Act.put, List.setIfInBounds_toArray, List.set_cons_zero, List.set_cons_succ, i64_w, i32_w]
                   rfl
                 refine one_ (i := 24) (N := some 79) #[true, true, true, true, true, true, true, true, true, true, true, true, true, true, true, true, true, true, true, true, true, true, true, true, true, false, false, false, false, false, false, false, false, false] rfl rfl (one_of HT_.out (by kernel_rfl)) (by decide) (fun K hK => ?_)
                 refine goes_ Try.func13 (by kernel_rfl) rfl #[.agg #[.int .i64 t576, .slice Ao10 t577.length co10, .slice Ao11 t580.length co11]] (by rfl) rfl rfl pA ?_
                 with_reducible refine (spec_TxSum.calls k1 t576 _ _ t577 _ _ t580 t604 t605 _ ?side1 ?side2 ?side3 ?side4 A37.out).mono ?_
                 (case side1 => exact pC (Kd.N_reads' HO_584001.out).2.2)
                 (case side2 => exact (Kd.N_reads' HO_584001.out).2.1)
                 (case side3 => exact pC (Kd.N_reads' HO_584002.out).2.2)
                 (case side4 => exact (Kd.N_reads' HO_584002.out).2.1)
                 rintro e w57 ⟨rfl, hb⟩
                 refine ⟨_, rfl, ?_⟩
                 have n_ := t10 (Kd.N_below zd29 hb) (Kd.N_below zd28 hb) (Kd.N_below zd27 hb) (Kd.N_below zd26 hb) (Kd.R_below (pR HO601) hb) (blk_below (g := gb583) (o := .cells #[.int .i64 t576, .slice Ao10 t577.length co10, .slice Ao11 t580.length co11] 27 (0, 0)) (pK BK583) hb) (blk_below (g := gb586) (o := .cells #[.int .i64 t584, .int .i64 t585] 30 (0, 0)) (pK BK586) hb) (blk_below (g := gb589) (o := .cells #[.int .i64 t576, .slice Ao45 x590001_1.length co45, .slice Ao11 t580.length co11] 27 (0, 0)) (pK BK589) hb) (blk_below (g := gb597) (o := .cells #[.int .i64 t595, .int .i64 t596] 30 (0, 0)) (pK BK597) hb) (bz_ pB hb)
                 clear HO_584001 HO_584002 HO_590001 HO_590002 HO601 BK583 BK586 BK589 BK597 HB; obtain ⟨HO_584001, HO_584002, HO_590001, HO_590002, HO601, BK583, BK586, BK589, BK597, HB⟩ := n_; (try clear hb); (try clear hb2); (try clear hk); (try clear hi)
                 refine hK.out _ _ ⟨(blk_cell BK597.out 0).trans rfl, (blk_cell BK597.out 1).trans rfl, (blk_cell BK586.out 0).trans rfl, (blk_cell BK586.out 1).trans rfl, (blk_cell BK589.out 0).trans rfl, (blk_cell BK589.out 1).trans rfl, (blk_cell BK589.out 2).trans rfl, (blk_cell BK583.out 0).trans rfl, (blk_cell BK583.out 1).trans rfl, (blk_cell BK583.out 2).trans rfl⟩ (fun hHeld => ?_)
                 clear hK K
                 refine norm_ (a' := ?_) ?_ ?_
                 rotate_left
                 · show Act.put _ (some 79) _ = _
                   simp only [Act.put, List.setIfInBounds_toArray, List.set_cons_zero, List.set_cons_succ, i64_w, i32_w]
                   rfl
                 refine pure_ (i := 25) (N := some 80) (v := ?_) (a' := ?_) #[true, true, true, true, true, true, true, true, true, true, true, true, true, true, true, true, true, true, true, true, true, true, true, true, true, true, false, false, false, false, false, false, false, false] rfl rfl (any_of HT_.out (by kernel_rfl)) (fun _ _ _ h => h) (Or.inl ⟨by rfl, ?_⟩) ?_ ?_
                 rotate_left
                 · intro w'
                   go_simp
                   with_reducible rfl
                 rotate_left
                 · simp only [Act.put, List.setIfInBounds_toArray, List.set_cons_zero, List.set_cons_succ, i64_w, i32_w]
                   rfl
                 refine pure_ (i := 26) (N := some 81) (v := ?_) (a' := ?_) #[true, true, true, true, true, true, true, true, true, true, true, true, true, true, true, true, true, true, true, true, true, true, true, true, true, true, true, false, false, false, false, false, false, false] rfl rfl (any_of HT_.out (by kernel_rfl)) (fun _ _ _ h => h) (Or.inl ⟨by rfl, ?_⟩) ?_ ?_
                 rotate_left
                 · intro w'
                   go_simp
                   with_reducible rfl
                 rotate_left
                 · simp only [Act.put, List.setIfInBounds_toArray, List.set_cons_zero, List.set_cons_succ, i64_w, i32_w]
                   rfl
                 refine pure_ (i := 27) (N := some 82) (v := ?_) (a' := ?_) #[true, true, true, true, true, true, true, true, true, true, true, true, true, true, true, true, true, true, true, true, true, true, true, true, true, true, true, true, false, false, false, false, false, false] rfl rfl (any_of HT_.out (by kernel_rfl)) (fun _ _ _ h => h) (Or.inl ⟨by rfl, ?_⟩) ?_ ?_
                 rotate_left
                 · intro w'
                   go_simp
                   with_reducible rfl
                 rotate_left
                 · simp only [Act.put, List.setIfInBounds_toArray, List.set_cons_zero, List.set_cons_succ, i64_w, i32_w]
                   rfl
                 refine pure_ (i := 28) (N := some 83) (v := ?_) (a' := ?_) #[true, true, true, true, true, true, true, true, true, true, true, true, true, true, true, true, true, true, true, true, true, true, true, true, true, true, true, true, true, false, false, false, false, false] rfl rfl (any_of HT_.out (by kernel_rfl)) (fun _ _ _ h => h) (Or.inl ⟨by rfl, ?_⟩) ?_ ?_
                 rotate_left
                 · intro w'
                   go_simp
                   with_reducible rfl
                 rotate_left
                 · simp only [Act.put, List.setIfInBounds_toArray, List.set_cons_zero, List.set_cons_succ, i64_w, i32_w]
                   rfl
                 refine take_ (i := 29) (N := some 84) (v := ?_) (a' := ?_) #[true, true, true, true, true, true, true, true, true, true, true, true, true, true, true, true, true, true, true, true, true, true, true, true, true, true, true, true, true, true, false, false, false, false] rfl rfl (take_ofW HT_.out HW_.out (by kernel_rfl)) (fun _ _ _ h => h) (Or.inl ⟨by rfl, ?_⟩) hHeld ?_ ?_
                 rotate_left
                 · rintro w' ⟨s0, s1, s2, s3, s4, s5, s6, s7, s8, s9⟩
                   go_simp
                   with_reducible rfl
                 rotate_left
                 · simp only [Act.put, List.setIfInBounds_toArray, List.set_cons_zero, List.set_cons_succ, i64_w, i32_w]
                   rfl
                 refine one_ (i := 30) (N := some 85) #[true, true, true, true, true, true, true, true, true, true, true, true, true, true, true, true, true, true, true, true, true, true, true, true, true, true, true, true, true, true, true, false, false, false] rfl rfl (one_of HT_.out (by kernel_rfl)) (by decide) (fun K hK => ?_)
                 refine goes_ Try.func16 (by kernel_rfl) rfl #[.agg #[.int .i64 t576, .slice Ao10 t577.length co10, .slice Ao11 t580.length co11]] (by rfl) rfl rfl pA ?_
                 with_reducible refine (impl_TxFault.calls k1 t576 _ _ t577 _ _ t580 t606 _ ?side1 ?side2 ?side3 ?side4 A39.out).mono ?_
                 (case side1 => exact pC (Kd.N_reads' HO_584001.out).2.2)
                 (case side2 => exact (Kd.N_reads' HO_584001.out).2.1)
                 (case side3 => exact pC (Kd.N_reads' HO_584002.out).2.2)
                 (case side4 => exact (Kd.N_reads' HO_584002.out).2.1)
                 rintro e w58 ⟨rfl, hb⟩
                 refine ⟨_, rfl, ?_⟩
                 have n_ := t10 (Kd.N_below zd29 hb) (Kd.N_below zd28 hb) (Kd.N_below zd27 hb) (Kd.N_below zd26 hb) (Kd.R_below (pR HO601) hb) (blk_below (g := gb583) (o := .cells #[.int .i64 t576, .slice Ao10 t577.length co10, .slice Ao11 t580.length co11] 27 (0, 0)) (pK BK583) hb) (blk_below (g := gb586) (o := .cells #[.int .i64 t584, .int .i64 t585] 30 (0, 0)) (pK BK586) hb) (blk_below (g := gb589) (o := .cells #[.int .i64 t576, .slice Ao45 x590001_1.length co45, .slice Ao11 t580.length co11] 27 (0, 0)) (pK BK589) hb) (blk_below (g := gb597) (o := .cells #[.int .i64 t595, .int .i64 t596] 30 (0, 0)) (pK BK597) hb) (bz_ pB hb)
                 clear HO_584001 HO_584002 HO_590001 HO_590002 HO601 BK583 BK586 BK589 BK597 HB; obtain ⟨HO_584001, HO_584002, HO_590001, HO_590002, HO601, BK583, BK586, BK589, BK597, HB⟩ := n_; (try clear hb); (try clear hb2); (try clear hk); (try clear hi)
                 refine hK.out _ _ ⟨(blk_cell BK597.out 0).trans rfl, (blk_cell BK597.out 1).trans rfl, (blk_cell BK586.out 0).trans rfl, (blk_cell BK586.out 1).trans rfl, (blk_cell BK589.out 0).trans rfl, (blk_cell BK589.out 1).trans rfl, (blk_cell BK589.out 2).trans rfl, (blk_cell BK583.out 0).trans rfl, (blk_cell BK583.out 1).trans rfl, (blk_cell BK583.out 2).trans rfl⟩ (fun hHeld => ?_)
                 clear hK K
                 refine norm_ (a' := ?_) ?_ ?_
                 rotate_left
                 · show Act.put _ (some 85) _ = _
                   simp only [Act.put, List.setIfInBounds_toArray, List.set_cons_zero, List.set_cons_succ, i64_w, i32_w]
                   rfl
                 refine pure_ (i := 31) (N := some 86) (v := ?_) (a' := ?_) #[true, true, true, true, true, true, true, true, true, true, true, true, true, true, true, true, true, true, true, true, true, true, true, true, true, true, true, true, true, true, true, true, false, false] rfl rfl (any_of HT_.out (by kernel_rfl)) (fun _ _ _ h => h) (Or.inl ⟨by rfl, ?_⟩) ?_ ?_
                 rotate_left
                 · intro w'
                   go_simp
                   with_reducible rfl
                 rotate_left
                 · simp only [Act.put, List.setIfInBounds_toArray, List.set_cons_zero, List.set_cons_succ, i64_w, i32_w]
                   rfl
                 refine pure_ (i := 32) (N := some 87) (v := ?_) (a' := ?_) #[true, true, true, true, true, true, true, true, true, true, true, true, true, true, true, true, true, true, true, true, true, true, true, true, true, true, true, true, true, true, true, true, true, false] rfl rfl (any_of HT_.out (by kernel_rfl)) (fun _ _ _ h => h) (Or.inl ⟨by rfl, ?_⟩) ?_ ?_
                 rotate_left
                 · intro w'
                   go_simp
                   with_reducible rfl
                 rotate_left
                 · simp only [Act.put, List.setIfInBounds_toArray, List.set_cons_zero, List.set_cons_succ, i64_w, i32_w]
                   rfl
                 refine pure_ (i := 33) (N := some 2) (v := ?_) (a' := ?_) #[true, true, true, true, true, true, true, true, true, true, true, true, true, true, true, true, true, true, true, true, true, true, true, true, true, true, true, true, true, true, true, true, true, true] rfl rfl (any_of HT_.out (by kernel_rfl)) (fun _ _ _ h => h) (Or.inl ⟨by rfl, ?_⟩) ?_ ?_
                 rotate_left
                 · intro w'
                   go_simp
                   with_reducible rfl
                 rotate_left
                 · simp only [Act.put, List.setIfInBounds_toArray, List.set_cons_zero, List.set_cons_succ, i64_w, i32_w]
                   rfl
                 refine done_ (done_of HT_.out (by kernel_rfl)) ?_
                 try go_wp2
                 go_ret
                 exact ⟨pE, pB⟩
               · rw [if_neg c38] at H
                 have c38b0 : (t585 == t605) = false := beq_eq_false_iff_ne.mpr c38
                 have c38b1 : (t585 != t605) = true := bne_iff_ne.mpr c38
                 exact absurd H (by simp)
             · rw [if_neg c36] at H
               have c36b0 : (t585 == t603) = false := beq_eq_false_iff_ne.mpr c36
               have c36b1 : (t585 != t603) = true := bne_iff_ne.mpr c36
               exact absurd H (by simp)
           · rw [if_neg c33] at H
             have c33b0 : (t596 == t585) = false := beq_eq_false_iff_ne.mpr c33
             have c33b1 : (t596 != t585) = true := bne_iff_ne.mpr c33
             exact absurd H (by simp)
         · rw [if_neg c32] at H
           have c32b0 : (t595 == 0) = false := beq_eq_false_iff_ne.mpr c32
           have c32b1 : (t595 != 0) = true := bne_iff_ne.mpr c32
           exact absurd H (by simp)
   · rw [if_neg c6] at H
     have c6b0 : (t584 == 0) = false := beq_eq_false_iff_ne.mpr c6
     have c6b1 : (t584 != 0) = true := bne_iff_ne.mpr c6
     obtain ⟨⟨t587, t588⟩, A590, H⟩ := bO H
     replace H : (some (t587 == t584)) = some r := H
     have A59 := am A590; clear A590
     obtain rfl := sj H
     go_enter Try.func3, Try.ntmps3
     try go_wp2_with (first | ((with_reducible refine gC (f := 10) rfl ?_); refine goesL_ (some 9) rfl rfl Try.func10 (by kernel_rfl) rfl #[.slice A0 l0.length c0] rfl pA ?_; (with_reducible refine (laws_lwBig.calls _ _ l0 false _ ?side1 ?side2 A2.out).mono ?_); (case side1 => exact pC HR0.out); (case side2 => exact HC0.out); rintro e w' ⟨rfl, ⟨nd, rfl⟩⟩; refine ⟨_, rfl, ?_⟩) | ((with_reducible refine gC (f := 11) rfl ?_); refine goesL_ (some 11) rfl rfl Try.func11 (by kernel_rfl) rfl #[.slice A0 l0.length c0] rfl pA ?_; (with_reducible refine (spec_DrawTxSum.calls k _ _ l0 t576 t577 t580 _ ?side1 ?side2 A4.out).mono ?_); (case side1 => exact pC HR0.out); (case side2 => exact HC0.out); rintro e w60 ⟨v578, v581, rfl, ho0, ho1, hb⟩; refine ⟨_, rfl, ?_⟩; have n_ := t3 (Kd.N_lower (Kd.N_mono (ok' := fun k_ => some k_ ≠ (v581 : Value).ownBlock) ho0 (fun k_ hk_ => hk_.2)) (bs_ pB)) (Kd.N_lower (Kd.N_mono (ok' := fun k_ => some k_ ≠ (v578 : Value).ownBlock) ho1 (fun k_ hk_ => hk_.2)) (bs_ pB)) (bz_ pB hb); clear HB; obtain ⟨HO579, HO582, HB⟩ := n_; (try clear hb); (try clear ho0); (try clear ho1)) | ((with_reducible refine gate_dst (N := 3) rfl ?_); refine box_event ?hg (N := 3) ?hd (cs := #[.int .i64 0, .slice none 0 0, .slice none 0 0]) (t := 27) ?hr ?_; (case hd => rfl); (case hg => rfl); (case hr => first | (go_simp; done) | (go_simp; rfl)); intro gb583 hg w61 hbox hb; have n_ := t6 (Kd.N_below (Kd.N_elderB zd43 gb583 (Nat.le_of_eq hg.symm)) hb) (Kd.N_below (Kd.N_elderB zd42 gb583 (Nat.le_of_eq hg.symm)) hb) (bz_ pB hb) (hbox) ((by rw [hg]; exact (bs_ pB) : w.heap.size ≤ gb583)) ((by rw [hg]; exact (bs_ pB) : w.heap.size ≤ gb583)); clear HO579 HO582 HB; obtain ⟨HO579, HO582, HB, BK583, GW583, GE583⟩ := n_; clear hb hbox hg; have hcz62_0 : w61.cell? ⟨gb583, 0, none⟩ = some (.int .i64 0) := (blk_cell BK583.out 0).trans rfl; have hcz62_1 : w61.cell? ⟨gb583, 1, none⟩ = some (.slice none 0 0) := (blk_cell BK583.out 1).trans rfl; have hcz62_2 : w61.cell? ⟨gb583, 2, none⟩ = some (.slice none 0 0) := (blk_cell BK583.out 2).trans rfl; have hfz62_0 := blk_frozen BK583.out 0; have hfz62_1 := blk_frozen BK583.out 1; have hfz62_2 := blk_frozen BK583.out 2; obtain ⟨Ao63, co63, eo63⟩ := Kd.N_slice HO579.out; subst eo63; obtain ⟨Ao64, co64, eo64⟩ := Kd.N_slice HO582.out; subst eo64) | ((with_reducible refine gC (f := 12) rfl ?_); refine goesL_ (some 13) rfl rfl Try.func12 (by kernel_rfl) rfl #[.agg #[.int .i64 t576, .slice Ao63 t577.length co63, .slice Ao64 t580.length co64]] rfl pA ?_; (with_reducible refine (impl_TxSum.calls k t576 _ _ t577 _ _ t580 t584 t585 _ ?side1 ?side2 ?side3 ?side4 A5.out).mono ?_); (case side1 => refine (Kd.N_reads' (e := 34) (base := w.heap.size) (ok := fun k_ => (some k_ ≠ (.slice Ao64 t580.length co64 : Value).ownBlock ∧ k_ ≠ gb583)) (n := t577.length) (c := co63) ?_).2.2; exact zd37); (case side2 => exact (Kd.N_reads' HO579.out).2.1); (case side3 => refine (Kd.N_reads' (e := 86) (base := w.heap.size) (ok := fun k_ => (some k_ ≠ (.slice Ao63 t577.length co63 : Value).ownBlock ∧ k_ ≠ gb583)) (n := t580.length) (c := co64) ?_).2.2; exact zd35); (case side4 => exact (Kd.N_reads' HO582.out).2.1); rintro e w65 ⟨rfl, hb⟩; refine ⟨_, rfl, ?_⟩; have n_ := t4 (Kd.N_below zd37 hb) (Kd.N_below zd35 hb) (blk_below (g := gb583) (o := .cells #[.int .i64 t576, .slice Ao63 t577.length co63, .slice Ao64 t580.length co64] 27 (0, 0)) (by (with_reducible repeat (first | refine blk_drewN ?_ _ | refine blk_drew ?_ | refine blk_alloc ?_ _)); refine blk_put (cs := #[.int .i64 t576, .slice Ao63 t577.length co63, .slice none 0 0]) ?_ 2 _ rfl; (with_reducible repeat (first | refine blk_drewN ?_ _ | refine blk_drew ?_ | refine blk_alloc ?_ _)); refine blk_put (cs := #[.int .i64 t576, .slice none 0 0, .slice none 0 0]) ?_ 1 _ rfl; (with_reducible repeat (first | refine blk_drewN ?_ _ | refine blk_drew ?_ | refine blk_alloc ?_ _)); refine blk_put (cs := #[.int .i64 0, .slice none 0 0, .slice none 0 0]) ?_ 0 _ rfl; (with_reducible repeat (first | refine blk_drewN ?_ _ | refine blk_drew ?_ | refine blk_alloc ?_ _)); exact BK583.out) hb) (bz_ pB hb); clear HO579 HO582 BK583 HB; obtain ⟨HO579, HO582, BK583, HB⟩ := n_; (try clear hb)) | ((with_reducible refine gate_dst (N := 4) rfl ?_); refine box_event ?hg (N := 4) ?hd (cs := #[.int .i64 0, .int .i64 0]) (t := 30) ?hr ?_; (case hd => rfl); (case hg => rfl); (case hr => first | (go_simp; done) | (go_simp; rfl)); intro gb586 hg w66 hbox hb; have n_ := t9 (Kd.N_below (Kd.N_elderB zd43 gb586 (Nat.le_of_eq hg.symm)) hb) (Kd.N_below (Kd.N_elderB zd42 gb586 (Nat.le_of_eq hg.symm)) hb) (blk_below (g := gb583) (o := .cells #[.int .i64 t576, .slice Ao63 t577.length co63, .slice Ao64 t580.length co64] 27 (0, 0)) (pK BK583) hb) (bz_ pB hb) (hbox) ((by rw [hg]; exact (bs_ pB) : w.heap.size ≤ gb586)) ((by rw [hg]; exact (bs_ pB) : w.heap.size ≤ gb586)) ((by rw [hg]; exact Nat.ne_of_lt (blk_lt (g := gb583) (o := .cells #[.int .i64 t576, .slice Ao63 t577.length co63, .slice Ao64 t580.length co64] 27 (0, 0)) (pK BK583)) : gb583 ≠ gb586)) ((by rw [hg]; exact Nat.ne_of_gt (blk_lt (g := gb583) (o := .cells #[.int .i64 t576, .slice Ao63 t577.length co63, .slice Ao64 t580.length co64] 27 (0, 0)) (pK BK583)) : gb586 ≠ gb583)); clear HO579 HO582 BK583 HB; obtain ⟨HO579, HO582, BK583, HB, BK586, GW586, GE586, NB583_586, NB586_583⟩ := n_; clear hb hbox hg; have hnb67 := NB586_583.out; have hnc67 := NB583_586.out; have hcz68_0 : w66.cell? ⟨gb586, 0, none⟩ = some (.int .i64 0) := (blk_cell BK586.out 0).trans rfl; have hcz68_1 : w66.cell? ⟨gb586, 1, none⟩ = some (.int .i64 0) := (blk_cell BK586.out 1).trans rfl; have hfz68_0 := blk_frozen BK586.out 0; have hfz68_1 := blk_frozen BK586.out 1))
     have n0_ : Aside0 (Kd.N k34 34 ((w66.setCell ⟨gb586, 0, none⟩ (.int .i64 t584)).setCell ⟨gb586, 1, none⟩ (.int .i64 t585)) w.heap.size (fun k_ => some k_ ≠ (.slice Ao64 t580.length co64 : Value).ownBlock ∧ k_ ≠ gb583 ∧ k_ ≠ gb586) (.slice Ao63 t577.length co63) t577) := ⟨by (with_reducible repeat (first | apply Kd.N_alloc | apply Kd.N_drewN | apply Kd.N_drew)); exact Kd.N_mono (Kd.N_far (p := ⟨gb586, 1, none⟩) (Kd.N_far (p := ⟨gb586, 0, none⟩) (Kd.N_mono HO579.out (fun k_ hk => (⟨hk, hk.2⟩ : _ ∧ k_ ≠ gb586))) (fun _ hk => hk.2) (.int .i64 t584)) (fun _ hk => hk.2) (.int .i64 t585)) (fun _ hk => ⟨hk.1.1.1, ⟨hk.1.1.2, hk.1.2⟩⟩)⟩
     have n1_ : Aside0 (Kd.N k86 86 ((w66.setCell ⟨gb586, 0, none⟩ (.int .i64 t584)).setCell ⟨gb586, 1, none⟩ (.int .i64 t585)) w.heap.size (fun k_ => some k_ ≠ (.slice Ao63 t577.length co63 : Value).ownBlock ∧ k_ ≠ gb583 ∧ k_ ≠ gb586) (.slice Ao64 t580.length co64) t580) := ⟨by (with_reducible repeat (first | apply Kd.N_alloc | apply Kd.N_drewN | apply Kd.N_drew)); exact Kd.N_mono (Kd.N_far (p := ⟨gb586, 1, none⟩) (Kd.N_far (p := ⟨gb586, 0, none⟩) (Kd.N_mono HO582.out (fun k_ hk => (⟨hk, hk.2⟩ : _ ∧ k_ ≠ gb586))) (fun _ hk => hk.2) (.int .i64 t584)) (fun _ hk => hk.2) (.int .i64 t585)) (fun _ hk => ⟨hk.1.1.1, ⟨hk.1.1.2, hk.1.2⟩⟩)⟩
     have n2_ : Aside0 (((w66.setCell ⟨gb586, 0, none⟩ (.int .i64 t584)).setCell ⟨gb586, 1, none⟩ (.int .i64 t585)).heap[gb583]? = some (.cells #[.int .i64 t576, .slice Ao63 t577.length co63, .slice Ao64 t580.length co64] 27 (0, 0))) := ⟨by (with_reducible repeat (first | refine blk_drewN ?_ _ | refine blk_drew ?_ | refine blk_alloc ?_ _)); refine blk_far ?_ NB583_586.out _; (with_reducible repeat (first | refine blk_drewN ?_ _ | refine blk_drew ?_ | refine blk_alloc ?_ _)); refine blk_far ?_ NB583_586.out _; (with_reducible repeat (first | refine blk_drewN ?_ _ | refine blk_drew ?_ | refine blk_alloc ?_ _)); exact BK583.out⟩
     have n3_ : Aside0 (((w66.setCell ⟨gb586, 0, none⟩ (.int .i64 t584)).setCell ⟨gb586, 1, none⟩ (.int .i64 t585)).heap[gb586]? = some (.cells #[.int .i64 t584, .int .i64 t585] 30 (0, 0))) := ⟨by (with_reducible repeat (first | refine blk_drewN ?_ _ | refine blk_drew ?_ | refine blk_alloc ?_ _)); refine blk_put (cs := #[.int .i64 t584, .int .i64 0]) ?_ 1 _ rfl; (with_reducible repeat (first | refine blk_drewN ?_ _ | refine blk_drew ?_ | refine blk_alloc ?_ _)); refine blk_put (cs := #[.int .i64 0, .int .i64 0]) ?_ 0 _ rfl; (with_reducible repeat (first | refine blk_drewN ?_ _ | refine blk_drew ?_ | refine blk_alloc ?_ _)); exact BK586.out⟩
     have n4_ : Aside0 (Below w.heap.size w ((w66.setCell ⟨gb586, 0, none⟩ (.int .i64 t584)).setCell ⟨gb586, 1, none⟩ (.int .i64 t585))) := ⟨pB⟩
     (try clear HO579); (try clear HO582); (try clear BK583); (try clear BK586); (try clear HB)
     generalize ((w66.setCell ⟨gb586, 0, none⟩ (.int .i64 t584)).setCell ⟨gb586, 1, none⟩ (.int .i64 t585)) = w69 at n0_ n1_ n2_ n3_ n4_ ⊢
     have HO579 := n0_
     have HO582 := n1_
     have BK583 := n2_
     have BK586 := n3_
     have HB := n4_
     clear n0_ n1_ n2_ n3_ n4_
     have n_ := t5 (Kd.N_drew HO579.out) (Kd.N_drew HO582.out) (blk_drew BK583.out) (blk_drew BK586.out) (below_drew1 HB.out)
     clear HO579 HO582 BK583 BK586 HB; obtain ⟨HO579, HO582, BK583, BK586, HB⟩ := n_
     refine start_ (n := 7) (S := fun w' => w'.cell? ⟨gb583, 0, none⟩ = some (.int .i64 t576) ∧ w'.cell? ⟨gb583, 1, none⟩ = some (.slice Ao63 t577.length co63) ∧ w'.cell? ⟨gb583, 2, none⟩ = some (.slice Ao64 t580.length co64) ∧ w'.cell? ⟨gb586, 0, none⟩ = some (.int .i64 t584) ∧ w'.cell? ⟨gb586, 1, none⟩ = some (.int .i64 t585)) (ds := []) #[false, false, false, false, false, false, false] (by kernel_rfl) rfl rfl ⟨(blk_cell BK583.out 0).trans rfl, (blk_cell BK583.out 1).trans rfl, (blk_cell BK583.out 2).trans rfl, (blk_cell BK586.out 0).trans rfl, (blk_cell BK586.out 1).trans rfl⟩ (fun hHeld => ?_)
     generalize w69.drew = w70 at HO579 HO582 BK583 BK586 HB hHeld ⊢
     refine pure_ (i := 3) (N := some 20) (v := ?_) (a' := ?_) #[false, false, false, true, false, false, false] rfl rfl (by kernel_rfl) (fun _ _ _ h => h) (Or.inl ⟨by rfl, ?_⟩) ?_ ?_
     rotate_left
     · intro w'
       go_simp
       with_reducible rfl
     rotate_left
     · simp only [Act.put, List.setIfInBounds_toArray, List.set_cons_zero, List.set_cons_succ, i64_w, i32_w]
       rfl
     refine take_ (i := 0) (N := some 17) (v := ?_) (a' := ?_) #[true, false, false, true, false, false, false] rfl rfl (by kernel_rfl) (fun _ _ _ h => h) (Or.inl ⟨by rfl, ?_⟩) hHeld ?_ ?_
     rotate_left
     · rintro w' ⟨s0, s1, s2, s3, s4⟩
       go_simp
       with_reducible rfl
     rotate_left
     · simp only [Act.put, List.setIfInBounds_toArray, List.set_cons_zero, List.set_cons_succ, i64_w, i32_w]
       rfl
     refine take_ (i := 4) (N := some 21) (v := ?_) (a' := ?_) #[true, false, false, true, true, false, false] rfl rfl (by kernel_rfl) (fun _ _ _ h => h) (Or.inl ⟨by rfl, ?_⟩) hHeld ?_ ?_
     rotate_left
     · rintro w' ⟨s0, s1, s2, s3, s4⟩
       go_simp
       with_reducible rfl
     rotate_left
     · simp only [Act.put, List.setIfInBounds_toArray, List.set_cons_zero, List.set_cons_succ, i64_w, i32_w]
       rfl
     refine one_ (i := 1) (N := some 18) #[true, true, false, true, true, false, false] rfl rfl (by kernel_rfl) (by decide) (fun K hK => ?_)
     refine goes_ Try.func13 (by kernel_rfl) rfl #[.agg #[.int .i64 t576, .slice Ao63 t577.length co63, .slice Ao64 t580.length co64]] (by rfl) rfl rfl pA ?_
     with_reducible refine (spec_TxSum.calls k t576 _ _ t577 _ _ t580 t587 t588 _ ?side1 ?side2 ?side3 ?side4 A59.out).mono ?_
     (case side1 => exact pC (Kd.N_reads' HO579.out).2.2)
     (case side2 => exact (Kd.N_reads' HO579.out).2.1)
     (case side3 => exact pC (Kd.N_reads' HO582.out).2.2)
     (case side4 => exact (Kd.N_reads' HO582.out).2.1)
     rintro e w71 ⟨rfl, hb⟩
     refine ⟨_, rfl, ?_⟩
     have n_ := t5 (Kd.N_below zd43 hb) (Kd.N_below zd42 hb) (blk_below (g := gb583) (o := .cells #[.int .i64 t576, .slice Ao63 t577.length co63, .slice Ao64 t580.length co64] 27 (0, 0)) (pK BK583) hb) (blk_below (g := gb586) (o := .cells #[.int .i64 t584, .int .i64 t585] 30 (0, 0)) (pK BK586) hb) (bz_ pB hb)
     clear HO579 HO582 BK583 BK586 HB; obtain ⟨HO579, HO582, BK583, BK586, HB⟩ := n_; (try clear hb); (try clear hb2); (try clear hk); (try clear hi)
     refine hK.out _ _ ⟨(blk_cell BK583.out 0).trans rfl, (blk_cell BK583.out 1).trans rfl, (blk_cell BK583.out 2).trans rfl, (blk_cell BK586.out 0).trans rfl, (blk_cell BK586.out 1).trans rfl⟩ (fun hHeld => ?_)
     clear hK K
     refine norm_ (a' := ?_) ?_ ?_
     rotate_left
     · show Act.put _ (some 18) _ = _
       simp only [Act.put, List.setIfInBounds_toArray, List.set_cons_zero, List.set_cons_succ, i64_w, i32_w]
       rfl
     refine pure_ (i := 2) (N := some 19) (v := ?_) (a' := ?_) #[true, true, true, true, true, false, false] rfl rfl (by kernel_rfl) (fun _ _ _ h => h) (Or.inl ⟨by rfl, ?_⟩) ?_ ?_
     rotate_left
     · intro w'
       go_simp
       with_reducible rfl
     rotate_left
     · simp only [Act.put, List.setIfInBounds_toArray, List.set_cons_zero, List.set_cons_succ, i64_w, i32_w]
       rfl
     refine pure_ (i := 5) (N := some 22) (v := ?_) (a' := ?_) #[true, true, true, true, true, true, false] rfl rfl (by kernel_rfl) (fun _ _ _ h => h) (Or.inl ⟨by rfl, ?_⟩) ?_ ?_
     rotate_left
     · intro w'
       go_simp
       with_reducible rfl
     rotate_left
     · simp only [Act.put, List.setIfInBounds_toArray, List.set_cons_zero, List.set_cons_succ, i64_w, i32_w]
       rfl
     refine pure_ (i := 6) (N := some 2) (v := ?_) (a' := ?_) #[true, true, true, true, true, true, true] rfl rfl (by kernel_rfl) (fun _ _ _ h => h) (Or.inl ⟨by rfl, ?_⟩) ?_ ?_
     rotate_left
     · intro w'
       go_simp
       with_reducible rfl
     rotate_left
     · simp only [Act.put, List.setIfInBounds_toArray, List.set_cons_zero, List.set_cons_succ, i64_w, i32_w]
       rfl
     refine done_ (by kernel_rfl) ?_
     try go_wp2
     go_ret
     exact ⟨pE, pB⟩
/-- THE ONE PURE STATEMENT of laws_FnNames: yours. -/
def laws_FnNames.Pure : Prop := ∀ (l0 : List Int), l0.length ≤ maxLen → l0.length * 1 ≤ 140737488351232 → (∀ x ∈ l0, (Lit.int .u8 x).wf = true) → ∃ k, laws_FnNames.f k l0 = some true
theorem laws_FnNames.walk (P : laws_FnNames.Pure) (a0 : Option Addr) (len0 cap0 : Nat) (z0 : List Int) (w : World) (w0 : (a0 = none ∧ len0 = 0 ∧ cap0 = 0 ∧ z0 = []) ∨ ∃ x, a0 = some x ∧ len0 ≤ cap0 ∧ cap0 ≤ maxLen ∧ z0.length = cap0 ∧ (∀ i, i < z0.length → w.cell? (x.add i) = some (.int .u8 (z0.getD i 0))) ∧ ∀ n ∈ z0, (Lit.int .u8 n).wf = true) (y0 : len0 * 1 ≤ 140737488351232) :
 Calls Try.prog 3 #[.slice a0 len0 cap0] w fun e w' => e = .returned (.bool true) ∧ Below w.heap.size w w' := by
 obtain ⟨l0, rfl, hr0, hm0, hw0, hc0⟩ := ReadsInt.ofRowC w0
 obtain ⟨k, h⟩ := P l0 hm0 y0 hw0
 refine (laws_FnNames.calls k _ _ l0 true w (Kd.C_of_reads (d := (0 : Int)) (h1 := fun _ => rfl) hr0) hc0 h).mono ?_
 rintro e w' ⟨rfl, hd⟩
 exact ⟨rfl, hd⟩
end Go.Proofs.Ythjlbpgiaehjnaa.QFnNames
