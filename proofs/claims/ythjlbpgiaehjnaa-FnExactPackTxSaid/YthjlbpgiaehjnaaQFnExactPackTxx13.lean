-- written by this session's program (wip/tools/myprint.py)
import Derived.Test.YthjlbpgiaehjnaaQFnExactPackTxx0
import Derived.Test.YthjlbpgiaehjnaaQFnExactPackTxx10
import Derived.Test.YthjlbpgiaehjnaaQFnExactPackTxx12
-- squeezed
namespace Go.Proofs.Ythjlbpgiaehjnaa.QFnExactPackTx
open Go.RowKit Go.Proofs.YthjlbpgiaehjnaaW.PrintWords Go.Proofs.YthjlbpgiaehjnaaW.PrintLast Go.Proofs.YthjlbpgiaehjnaaW.PrintMore
attribute [local go_sem] max2_int min2_int max_two min_two max_three min_three max_four min_four   -- for this text's walks alone
set_option linter.unusedVariables false
set_option linter.unusedSimpArgs false
set_option maxHeartbeats 8000000
set_option maxRecDepth 100000
def spec_l3Pack.f (k : Nat) (a0_0 : Int) (l0_1 : List (S34)) (l0_2 : List (S86)) (a1 : Bool) : Option (List Int) := spec_l3Pack_in.f k [(⟨a0_0, l0_1, l0_2⟩ : S27)] a1
theorem spec_l3Pack.mono : ∀ (a0_0 : Int) (l0_1 : List (S34)) (l0_2 : List (S86)) (a1 : Bool) (k : Nat), LeO (spec_l3Pack.f k a0_0 l0_1 l0_2 a1) (spec_l3Pack.f (k + 1) a0_0 l0_1 l0_2 a1) := fun a0_0 l0_1 l0_2 a1 k => spec_l3Pack_in.mono [(⟨a0_0, l0_1, l0_2⟩ : S27)] a1 k
set_option maxHeartbeats 8000000 in
theorem spec_l3Pack.calls (k : Nat) (a0_0 : Int) (A0_1 : Option Addr) (c0_1 : Nat) (l0_1 : List (S34)) (A0_2 : Option Addr) (c0_2 : Nat) (l0_2 : List (S86)) (a1 : Bool) (r : List Int) (w : World) (hr0_1 : Kd.C k34 w A0_1 l0_1.length l0_1) (hc0_1 : l0_1.length ≤ c0_1) (hr0_2 : Kd.C k86 w A0_2 l0_2.length l0_2) (hc0_2 : l0_2.length ≤ c0_2) (h : spec_l3Pack.f k a0_0 l0_1 l0_2 a1 = some r) {pp0 : Addr} (hpp0_0 : w.cell? pp0 = some (.int .i64 a0_0)) (hpp0_1 : w.cell? ⟨pp0.block, pp0.off + 1, none⟩ = some (.slice A0_1 l0_1.length c0_1)) (hpp0_2 : w.cell? ⟨pp0.block, pp0.off + 2, none⟩ = some (.slice A0_2 l0_2.length c0_2)) :
 Calls Try.prog 71 #[.pointer (some pp0), .bool a1] w fun e w' => ∃ v0_ : Value, e = .returned (v0_) ∧ Kd.R (Kd.int .u8) 5 w' w.heap.size (fun _ => True) v0_ r ∧ Below w.heap.size w w' := by
 have o0 : Kd.C k27 w (some pp0) 1 [(⟨a0_0, l0_1, l0_2⟩ : S27)] := by
  refine ⟨rfl, by decide, fun _ => ⟨pp0, rfl, fun j p hj => ?_⟩⟩
  cases j with
  | succ j => simp at hj
  | zero =>
   obtain rfl : (⟨a0_0, l0_1, l0_2⟩ : S27) = p := by simpa using hj
   refine ⟨_, rfl, k27_mk w _ hc0_1 hr0_1 hc0_2 hr0_2, fun i u hu => ?_⟩
   match i, hu with
   | 0, hu => obtain rfl := sj hu; exact hpp0_0
   | 1, hu => obtain rfl := sj hu; exact hpp0_1
   | 2, hu => obtain rfl := sj hu; exact hpp0_2
 exact spec_l3Pack_in.calls k (some pp0) 1 [(⟨a0_0, l0_1, l0_2⟩ : S27)] a1 r w o0 (Nat.le_refl 1) h
def spec_PackTx.f (k : Nat) (a0_0 : Int) (l0_1 : List (S34)) (l0_2 : List (S86)) : Option (Int × List Int) := (spec_l3Fault.f k a0_0 l0_1 l0_2).bind fun t423 => (if t423 = 0 then ((spec_l3Pack.f k a0_0 l0_1 l0_2 true).bind fun t424 => (some (0, t424))) else (some (t423, ([] : List Int))))
theorem spec_PackTx.mono : ∀ a0 a1 a2 k, LeO (spec_PackTx.f k a0 a1 a2) (spec_PackTx.f (k + 1) a0 a1 a2) := by
 intro a0 a1 a2 k
 unfold spec_PackTx.f
 repeat' with_reducible first | exact spec_l3Fault.mono _ _ _ _ | exact spec_l3Pack.mono _ _ _ _ _ | exact LeO.refl _ | exact LeO.none _ | refine LeO.ite ?_ ?_ | refine LeO.bind ?_ (fun _ => ?_)
theorem spec_PackTx.calls (k : Nat) (a0_0 : Int) (A0_1 : Option Addr) (c0_1 : Nat) (l0_1 : List (S34)) (A0_2 : Option Addr) (c0_2 : Nat) (l0_2 : List (S86)) (r1 : Int) (r2 : List Int) (w : World) (hr0_1 : Kd.C k34 w A0_1 l0_1.length l0_1) (hc0_1 : l0_1.length ≤ c0_1) (hr0_2 : Kd.C k86 w A0_2 l0_2.length l0_2) (hc0_2 : l0_2.length ≤ c0_2) (h : spec_PackTx.f k a0_0 l0_1 l0_2 = some (r1, r2)) :
 Calls Try.prog 29 #[.agg #[.int .i64 a0_0, .slice A0_1 l0_1.length c0_1, .slice A0_2 l0_2.length c0_2]] w fun e w' => ∃ v1_ : Value, e = .returned (.agg #[.int .i64 r1, v1_]) ∧ Kd.R (Kd.int .u8) 5 w' w.heap.size (fun _ => True) v1_ r2 ∧ Below w.heap.size w w' := by
 have hu27 := Try.underlying27
 have hu37 := Try.underlying37
 have HR0_1 := am hr0_1; have HC0_1 := am hc0_1; clear hr0_1 hc0_1; have HR0_2 := am hr0_2; have HC0_2 := am hc0_2; clear hr0_2 hc0_2
 have HB := am (Below.refl w.heap.size w)
 have H : ((spec_l3Fault.f k a0_0 l0_1 l0_2).bind fun t423 => (if t423 = 0 then ((spec_l3Pack.f k a0_0 l0_1 l0_2 true).bind fun t424 => (some (0, t424))) else (some (t423, ([] : List Int))))) = some (r1, r2) := h
 clear h
 obtain ⟨t423, A20, H⟩ := bO H
 replace H : (if t423 = 0 then ((spec_l3Pack.f k a0_0 l0_1 l0_2 true).bind fun t424 => (some (0, t424))) else (some (t423, ([] : List Int)))) = some (r1, r2) := H
 have A2 := am A20; clear A20
 by_cases c3 : t423 = 0
 · rw [if_pos c3] at H
   have c3b0 : (t423 == 0) = true := beq_iff_eq.mpr c3
   have c3b1 : (t423 != 0) = false := bne_eq_false_iff_eq.mpr c3
   clear c3
   obtain ⟨t424, A40, H⟩ := bO H
   replace H : (some (0, t424)) = some (r1, r2) := H
   have A4 := am A40; clear A40
   simp only [Option.some.injEq, Prod.mk.injEq] at H
   obtain ⟨rfl, rfl⟩ := H
   go_enter Try.func29, Try.ntmps29
   go_wp2_with (first | ((with_reducible refine gate_dst (N := 1) rfl ?_); refine box_event ?hg (N := 1) ?hd (cs := #[.int .i64 a0_0, .slice A0_1 l0_1.length c0_1, .slice A0_2 l0_2.length c0_2]) (t := 27) ?hr ?_; (case hd => rfl); (case hg => rfl); (case hr => first | (go_simp; done) | (go_simp; rfl)); intro gb421 hg w5 hbox hb; have n_ := t4 (bz_ pB hb) (hbox) ((by rw [hg]; exact (bs_ pB) : w.heap.size ≤ gb421)) ((by rw [hg]; exact (bs_ pB) : w.heap.size ≤ gb421)); clear HB; obtain ⟨HB, BK421, GW421, GE421⟩ := n_; clear hb hbox hg) | ((with_reducible refine gate_dst (N := 2) rfl ?_); refine box_event ?hg (N := 2) ?hd (cs := #[.int .i64 0, .slice none 0 0]) (t := 37) ?hr ?_; (case hd => rfl); (case hg => rfl); (case hr => first | (go_simp; done) | (go_simp; rfl)); intro gb422 hg w6 hbox hb; have n_ := t7 (blk_below (g := gb421) (o := .cells #[.int .i64 a0_0, .slice A0_1 l0_1.length c0_1, .slice A0_2 l0_2.length c0_2] 27 (0, 0)) (pK BK421) hb) (bz_ pB hb) (hbox) ((by rw [hg]; exact (bs_ pB) : w.heap.size ≤ gb422)) ((by rw [hg]; exact (bs_ pB) : w.heap.size ≤ gb422)) ((by rw [hg]; exact Nat.ne_of_lt (blk_lt (g := gb421) (o := .cells #[.int .i64 a0_0, .slice A0_1 l0_1.length c0_1, .slice A0_2 l0_2.length c0_2] 27 (0, 0)) (pK BK421)) : gb421 ≠ gb422)) ((by rw [hg]; exact Nat.ne_of_gt (blk_lt (g := gb421) (o := .cells #[.int .i64 a0_0, .slice A0_1 l0_1.length c0_1, .slice A0_2 l0_2.length c0_2] 27 (0, 0)) (pK BK421)) : gb422 ≠ gb421)); clear BK421 HB; obtain ⟨BK421, HB, BK422, GW422, GE422, NB421_422, NB422_421⟩ := n_; clear hb hbox hg; have hnb7 := NB421_422.out; have hnc7 := NB422_421.out; have hcz8_0 : w6.cell? ⟨gb421, 0, none⟩ = some (.int .i64 a0_0) := (blk_cell BK421.out 0).trans rfl; have hcz8_1 : w6.cell? ⟨gb421, 1, none⟩ = some (.slice A0_1 l0_1.length c0_1) := (blk_cell BK421.out 1).trans rfl; have hcz8_2 : w6.cell? ⟨gb421, 2, none⟩ = some (.slice A0_2 l0_2.length c0_2) := (blk_cell BK421.out 2).trans rfl; have hfz8_0 := blk_frozen BK421.out 0; have hfz8_1 := blk_frozen BK421.out 1; have hfz8_2 := blk_frozen BK421.out 2) | ((with_reducible refine gC (f := 53) rfl ?_); refine goesL_ (some 4) rfl rfl Try.func53 (by kernel_rfl) rfl #[.pointer (some _)] rfl pA ?_; (refine Calls.mono (spec_l3Fault.calls k a0_0 _ _ l0_1 _ _ l0_2 t423 _ ?side1 ?side2 ?side3 ?side4 A2.out (hpp0_0 := by first | (with_unfolding_all assumption) | (dsimp only; assumption) | (dsimp only [Nat.zero_add]; exact (blk_cell (Aside0.out (by assumption)) _).trans rfl) | (go_simp; done)) (hpp0_1 := by first | (with_unfolding_all assumption) | (dsimp only; assumption) | (dsimp only [Nat.zero_add]; exact (blk_cell (Aside0.out (by assumption)) _).trans rfl) | (go_simp; done)) (hpp0_2 := by first | (with_unfolding_all assumption) | (dsimp only; assumption) | (dsimp only [Nat.zero_add]; exact (blk_cell (Aside0.out (by assumption)) _).trans rfl) | (go_simp; done))) ?_); (case side1 => exact pC (Kd.C_below HR0_1.out HB.out)); (case side2 => exact HC0_1.out); (case side3 => exact pC (Kd.C_below HR0_2.out HB.out)); (case side4 => exact HC0_2.out); rintro e w9 ⟨rfl, hb⟩; refine ⟨_, rfl, ?_⟩; have n_ := t3 (blk_below (g := gb421) (o := .cells #[.int .i64 a0_0, .slice A0_1 l0_1.length c0_1, .slice A0_2 l0_2.length c0_2] 27 (0, 0)) (pK BK421) hb) (blk_below (g := gb422) (o := .cells #[.int .i64 0, .slice none 0 0] 37 (0, 0)) (pK BK422) hb) (bz_ pB hb); clear BK421 BK422 HB; obtain ⟨BK421, BK422, HB⟩ := n_; (try clear hb); have hcz10_0 : w9.cell? ⟨gb421, 0, none⟩ = some (.int .i64 a0_0) := (blk_cell BK421.out 0).trans rfl; have hcz10_1 : w9.cell? ⟨gb421, 1, none⟩ = some (.slice A0_1 l0_1.length c0_1) := (blk_cell BK421.out 1).trans rfl; have hcz10_2 : w9.cell? ⟨gb421, 2, none⟩ = some (.slice A0_2 l0_2.length c0_2) := (blk_cell BK421.out 2).trans rfl; have hfz10_0 := blk_frozen BK421.out 0; have hfz10_1 := blk_frozen BK421.out 1; have hfz10_2 := blk_frozen BK421.out 2) | ((with_reducible refine gC (f := 71) rfl ?_); refine goesL_ (some 9) rfl rfl Try.func71 (by kernel_rfl) rfl #[.pointer (some _), .bool true] rfl pA ?_; (refine Calls.mono (spec_l3Pack.calls k a0_0 _ _ l0_1 _ _ l0_2 true t424 _ ?side1 ?side2 ?side3 ?side4 A4.out (hpp0_0 := by first | (with_unfolding_all assumption) | (dsimp only; assumption) | (dsimp only [Nat.zero_add]; exact (blk_cell (Aside0.out (by assumption)) _).trans rfl) | (go_simp; done)) (hpp0_1 := by first | (with_unfolding_all assumption) | (dsimp only; assumption) | (dsimp only [Nat.zero_add]; exact (blk_cell (Aside0.out (by assumption)) _).trans rfl) | (go_simp; done)) (hpp0_2 := by first | (with_unfolding_all assumption) | (dsimp only; assumption) | (dsimp only [Nat.zero_add]; exact (blk_cell (Aside0.out (by assumption)) _).trans rfl) | (go_simp; done))) ?_); (case side1 => exact pC (Kd.C_below HR0_1.out HB.out)); (case side2 => exact HC0_1.out); (case side3 => exact pC (Kd.C_below HR0_2.out HB.out)); (case side4 => exact HC0_2.out); rintro e w11 ⟨v425, rfl, ho0, hb⟩; refine ⟨_, rfl, ?_⟩; have n_ := t4 (rL ho0 (bs_ pB)) (blk_below (g := gb421) (o := .cells #[.int .i64 a0_0, .slice A0_1 l0_1.length c0_1, .slice A0_2 l0_2.length c0_2] 27 (0, 0)) (pK BK421) hb) (blk_below (g := gb422) (o := .cells #[.int .i64 0, .slice none 0 0] 37 (0, 0)) (pK BK422) hb) (bz_ pB hb); clear BK421 BK422 HB; obtain ⟨HO426, BK421, BK422, HB⟩ := n_; (try clear hb); (try clear ho0); obtain ⟨Ao12, co12, eo12⟩ := rS HO426.out; subst eo12; have hcz13_0 : w11.cell? ⟨gb422, 0, none⟩ = some (.int .i64 0) := (blk_cell BK422.out 0).trans rfl; have hcz13_1 : w11.cell? ⟨gb422, 1, none⟩ = some (.slice none 0 0) := (blk_cell BK422.out 1).trans rfl; have hfz13_0 := blk_frozen BK422.out 0; have hfz13_1 := blk_frozen BK422.out 1))
   refine bodyPost_ret (results_cell_row rfl _ _ gb422 37 #[.int .i64 0, .slice Ao12 t424.length co12] (0, 0) _ rfl (by (with_reducible repeat (first | refine blk_drewN ?_ _ | refine blk_drew ?_ | refine blk_alloc ?_ _)); refine blk_put (cs := #[.int .i64 0, .slice none 0 0]) ?_ 1 _ rfl; (with_reducible repeat (first | refine blk_drewN ?_ _ | refine blk_drew ?_ | refine blk_alloc ?_ _)); refine blk_put (cs := #[.int .i64 0, .slice none 0 0]) ?_ 0 _ rfl; (with_reducible repeat (first | refine blk_drewN ?_ _ | refine blk_drew ?_ | refine blk_alloc ?_ _)); exact BK422.out) Try.underlying37 rfl (by kernel_rfl)) rfl ?_
   exact ⟨_, pE, (pT (Kd.R_mono (Kd.R_far (p := ⟨gb422, 1, none⟩) (Kd.R_far (p := ⟨gb422, 0, none⟩) (Kd.R_types HO426.out BK422.out (by decide)) (fun _ hk => hk.2) (.int .i64 0)) (fun _ hk => hk.2) (.slice Ao12 t424.length co12)) (fun _ hk => trivial))), pB⟩
 · rw [if_neg c3] at H
   have c3b0 : (t423 == 0) = false := beq_eq_false_iff_ne.mpr c3
   have c3b1 : (t423 != 0) = true := bne_iff_ne.mpr c3
   simp only [Option.some.injEq, Prod.mk.injEq] at H
   obtain ⟨rfl, rfl⟩ := H
   go_enter Try.func29, Try.ntmps29
   go_wp2_with (first | ((with_reducible refine gate_dst (N := 1) rfl ?_); refine box_event ?hg (N := 1) ?hd (cs := #[.int .i64 a0_0, .slice A0_1 l0_1.length c0_1, .slice A0_2 l0_2.length c0_2]) (t := 27) ?hr ?_; (case hd => rfl); (case hg => rfl); (case hr => first | (go_simp; done) | (go_simp; rfl)); intro gb421 hg w14 hbox hb; have n_ := t4 (bz_ pB hb) (hbox) ((by rw [hg]; exact (bs_ pB) : w.heap.size ≤ gb421)) ((by rw [hg]; exact (bs_ pB) : w.heap.size ≤ gb421)); clear HB; obtain ⟨HB, BK421, GW421, GE421⟩ := n_; clear hb hbox hg) | ((with_reducible refine gate_dst (N := 2) rfl ?_); refine box_event ?hg (N := 2) ?hd (cs := #[.int .i64 0, .slice none 0 0]) (t := 37) ?hr ?_; (case hd => rfl); (case hg => rfl); (case hr => first | (go_simp; done) | (go_simp; rfl)); intro gb422 hg w15 hbox hb; have n_ := t7 (blk_below (g := gb421) (o := .cells #[.int .i64 a0_0, .slice A0_1 l0_1.length c0_1, .slice A0_2 l0_2.length c0_2] 27 (0, 0)) (pK BK421) hb) (bz_ pB hb) (hbox) ((by rw [hg]; exact (bs_ pB) : w.heap.size ≤ gb422)) ((by rw [hg]; exact (bs_ pB) : w.heap.size ≤ gb422)) ((by rw [hg]; exact Nat.ne_of_lt (blk_lt (g := gb421) (o := .cells #[.int .i64 a0_0, .slice A0_1 l0_1.length c0_1, .slice A0_2 l0_2.length c0_2] 27 (0, 0)) (pK BK421)) : gb421 ≠ gb422)) ((by rw [hg]; exact Nat.ne_of_gt (blk_lt (g := gb421) (o := .cells #[.int .i64 a0_0, .slice A0_1 l0_1.length c0_1, .slice A0_2 l0_2.length c0_2] 27 (0, 0)) (pK BK421)) : gb422 ≠ gb421)); clear BK421 HB; obtain ⟨BK421, HB, BK422, GW422, GE422, NB421_422, NB422_421⟩ := n_; clear hb hbox hg; have hnb16 := NB421_422.out; have hnc16 := NB422_421.out; have hcz17_0 : w15.cell? ⟨gb421, 0, none⟩ = some (.int .i64 a0_0) := (blk_cell BK421.out 0).trans rfl; have hcz17_1 : w15.cell? ⟨gb421, 1, none⟩ = some (.slice A0_1 l0_1.length c0_1) := (blk_cell BK421.out 1).trans rfl; have hcz17_2 : w15.cell? ⟨gb421, 2, none⟩ = some (.slice A0_2 l0_2.length c0_2) := (blk_cell BK421.out 2).trans rfl; have hfz17_0 := blk_frozen BK421.out 0; have hfz17_1 := blk_frozen BK421.out 1; have hfz17_2 := blk_frozen BK421.out 2) | ((with_reducible refine gC (f := 53) rfl ?_); refine goesL_ (some 4) rfl rfl Try.func53 (by kernel_rfl) rfl #[.pointer (some _)] rfl pA ?_; (refine Calls.mono (spec_l3Fault.calls k a0_0 _ _ l0_1 _ _ l0_2 t423 _ ?side1 ?side2 ?side3 ?side4 A2.out (hpp0_0 := by first | (with_unfolding_all assumption) | (dsimp only; assumption) | (dsimp only [Nat.zero_add]; exact (blk_cell (Aside0.out (by assumption)) _).trans rfl) | (go_simp; done)) (hpp0_1 := by first | (with_unfolding_all assumption) | (dsimp only; assumption) | (dsimp only [Nat.zero_add]; exact (blk_cell (Aside0.out (by assumption)) _).trans rfl) | (go_simp; done)) (hpp0_2 := by first | (with_unfolding_all assumption) | (dsimp only; assumption) | (dsimp only [Nat.zero_add]; exact (blk_cell (Aside0.out (by assumption)) _).trans rfl) | (go_simp; done))) ?_); (case side1 => exact pC (Kd.C_below HR0_1.out HB.out)); (case side2 => exact HC0_1.out); (case side3 => exact pC (Kd.C_below HR0_2.out HB.out)); (case side4 => exact HC0_2.out); rintro e w18 ⟨rfl, hb⟩; refine ⟨_, rfl, ?_⟩; have n_ := t3 (blk_below (g := gb421) (o := .cells #[.int .i64 a0_0, .slice A0_1 l0_1.length c0_1, .slice A0_2 l0_2.length c0_2] 27 (0, 0)) (pK BK421) hb) (blk_below (g := gb422) (o := .cells #[.int .i64 0, .slice none 0 0] 37 (0, 0)) (pK BK422) hb) (bz_ pB hb); clear BK421 BK422 HB; obtain ⟨BK421, BK422, HB⟩ := n_; (try clear hb); have hcz19_0 : w18.cell? ⟨gb422, 0, none⟩ = some (.int .i64 0) := (blk_cell BK422.out 0).trans rfl; have hcz19_1 : w18.cell? ⟨gb422, 1, none⟩ = some (.slice none 0 0) := (blk_cell BK422.out 1).trans rfl; have hfz19_0 := blk_frozen BK422.out 0; have hfz19_1 := blk_frozen BK422.out 1))
   refine bodyPost_ret (results_cell_row rfl _ _ gb422 37 #[.int .i64 t423, .slice none 0 0] (0, 0) _ rfl (by (with_reducible repeat (first | refine blk_drewN ?_ _ | refine blk_drew ?_ | refine blk_alloc ?_ _)); refine blk_put (cs := #[.int .i64 t423, .slice none 0 0]) ?_ 1 _ rfl; (with_reducible repeat (first | refine blk_drewN ?_ _ | refine blk_drew ?_ | refine blk_alloc ?_ _)); refine blk_put (cs := #[.int .i64 0, .slice none 0 0]) ?_ 0 _ rfl; (with_reducible repeat (first | refine blk_drewN ?_ _ | refine blk_drew ?_ | refine blk_alloc ?_ _)); exact BK422.out) Try.underlying37 rfl (by kernel_rfl)) rfl ?_
   exact ⟨_, pE, by first | exact Kd.R_nil _ _ _ _ _ | exact Kd.N_nil _ _ _ _ _ | exact Kd.V_nil _ _ _ _ _ | exact Kd.Q_nil _ _ _ _ _ | exact Kd.S_nil _ _ _ _ _, pB⟩
def laws_eqByteS.l0 : Nat → List Int → List Int → Int → Option (Bool)
 | 0, _, _, _ => none
 | k + 1, x0, x1, x5 => if x5 < (x0.length : Int) then (if 0 ≤ x5 then (if x5 < (x1.length : Int) then (if (rd x0 x5) = (rd x1 x5) then (laws_eqByteS.l0 k x0 x1 (wrap64 (x5 + 1))) else (some false)) else (none)) else (none)) else (some true)
def laws_eqByteS.f (k : Nat) (l0 : List Int) (l1 : List Int) : Option (Bool) := if (l0.length : Int) = (l1.length : Int) then (laws_eqByteS.l0 k l0 l1 0) else (some false)
theorem laws_eqByteS.mono_l : ∀ k, (∀ y0 y1 y2, LeO (laws_eqByteS.l0 k y0 y1 y2) (laws_eqByteS.l0 (k + 1) y0 y1 y2))
 | 0 => fun _ _ _ r h => by simp [laws_eqByteS.l0] at h
 | k + 1 => by
  have ih0 := laws_eqByteS.mono_l k
  · intro y0 y1 y2
    unfold laws_eqByteS.l0
    repeat' with_reducible first | exact ih0 _ _ _ | exact LeO.refl _ | exact LeO.none _ | refine LeO.ite ?_ ?_ | refine LeO.bind ?_ (fun _ => ?_)
theorem laws_eqByteS.mono : ∀ a0 a1 k, LeO (laws_eqByteS.f k a0 a1) (laws_eqByteS.f (k + 1) a0 a1) := by
 intro a0 a1 k
 have ih0 := laws_eqByteS.mono_l k
 unfold laws_eqByteS.f
 repeat' with_reducible first | exact ih0 _ _ _ | exact LeO.refl _ | exact LeO.none _ | refine LeO.ite ?_ ?_ | refine LeO.bind ?_ (fun _ => ?_)
theorem laws_eqByteS.calls (k : Nat) (A0 : Option Addr) (c0 : Nat) (l0 : List Int) (A1 : Option Addr) (c1 : Nat) (l1 : List Int) (r : Bool) (w : World) (hr0 : Kd.C (Kd.int .u8) w A0 l0.length l0) (hc0 : l0.length ≤ c0) (hr1 : Kd.C (Kd.int .u8) w A1 l1.length l1) (hc1 : l1.length ≤ c1) (h : laws_eqByteS.f k l0 l1 = some r) :
 Calls Try.prog 25 #[.slice A0 l0.length c0, .slice A1 l1.length c1] w fun e w' => e = .returned (.bool r) ∧ Drawn0 w w' := by
 have HR0 := am hr0; have HC0 := am hc0; clear hr0 hc0; have HR1 := am hr1; have HC1 := am hc1; clear hr1 hc1
 have H : (if (l0.length : Int) = (l1.length : Int) then (laws_eqByteS.l0 k l0 l1 0) else (some false)) = some r := h
 clear h
 by_cases c3 : (l0.length : Int) = (l1.length : Int)
 · rw [if_pos c3] at H
   have c3b0 : ((l0.length : Int) == (l1.length : Int)) = true := beq_iff_eq.mpr c3
   have c3b1 : ((l0.length : Int) != (l1.length : Int)) = false := bne_eq_false_iff_eq.mpr c3
   have c3b2 : (l0.length == l1.length) = true := by first | simpa using c3 | (simp at c3 ⊢; omega)
   clear c3
   have H' := am H
   clear H
   go_enter Try.func25, Try.ntmps25
   go_wp2
   repeat (go_quiet (fail); try go_wp2)
   go_loopg [5] k (fun kq v5 w' => ∃ (x5_1 : Int), v5 = .int .i64 x5_1 ∧ Aside0 (laws_eqByteS.l0 kq l0 l1 x5_1 = some r) ∧ Aside0 (kq ≤ k) ∧ Drawn0 w w')
   case atStart => exact ⟨(0), pF, H', ⟨Nat.le_refl _⟩, pW⟩
   case round =>
    clear H'
    (try clear c1); (try clear c3); (try clear c3b0); (try clear c3b1); (try clear c3b2)
    obtain ⟨x5_1, rfl, HA, HK1, ⟨m1, rfl⟩⟩ := hrel
    cases gk with
    | zero => exact absurd HA.out (by simp [laws_eqByteS.l0])
    | succ k1 =>
     have H := HA.out
     clear HA
     simp only [laws_eqByteS.l0] at H
     by_cases c4 : x5_1 < (l0.length : Int)
     · rw [if_pos c4] at H
       have c4b0 : decide (x5_1 < (l0.length : Int)) = true := dt c4
       clear c4
       by_cases c5 : 0 ≤ x5_1
       · rw [if_pos c5] at H
         have c5b0 : decide (0 ≤ x5_1) = true := dt c5
         clear c5
         by_cases c6 : x5_1 < (l1.length : Int)
         · rw [if_pos c6] at H
           have c6b0 : decide (x5_1 < (l1.length : Int)) = true := dt c6
           clear c6
           by_cases c7 : (rd l0 x5_1) = (rd l1 x5_1)
           · rw [if_pos c7] at H
             have c7b0 : ((rd l0 x5_1) == (rd l1 x5_1)) = true := beq_iff_eq.mpr c7
             have c7b1 : ((rd l0 x5_1) != (rd l1 x5_1)) = false := bne_eq_false_iff_eq.mpr c7
             clear c7
             have H' := am H
             clear H
             have p427 : 0 ≤ (x5_1 : Int) := pD
             have q427 : x5_1 < (l0.length : Int) := pD
             obtain ⟨ad427, e427, hx427_0⟩ := Kd.at_int HR0.out x5_1 p427 q427
             cases e427; replace p427 := eq_true p427; replace q427 := eq_true q427
             have p428 : 0 ≤ (x5_1 : Int) := pD
             have q428 : x5_1 < (l1.length : Int) := pD
             obtain ⟨ad428, e428, hx428_0⟩ := Kd.at_int HR1.out x5_1 p428 q428
             cases e428; replace p428 := eq_true p428; replace q428 := eq_true q428
             go_wp2
             repeat (go_quiet (fail); try go_wp2)
             go_roundg k1
             case measure => have := HK1.out; omega
             case rel => exact ⟨(wrap64 (x5_1 + 1)), pF, H', ⟨by have := HK1.out; omega⟩, pW⟩
           · rw [if_neg c7] at H
             have c7b0 : ((rd l0 x5_1) == (rd l1 x5_1)) = false := beq_eq_false_iff_ne.mpr c7
             have c7b1 : ((rd l0 x5_1) != (rd l1 x5_1)) = true := bne_iff_ne.mpr c7
             obtain rfl := sj H
             have p427 : 0 ≤ (x5_1 : Int) := pD
             have q427 : x5_1 < (l0.length : Int) := pD
             obtain ⟨ad427, e427, hx427_0⟩ := Kd.at_int HR0.out x5_1 p427 q427
             cases e427; replace p427 := eq_true p427; replace q427 := eq_true q427
             have p428 : 0 ≤ (x5_1 : Int) := pD
             have q428 : x5_1 < (l1.length : Int) := pD
             obtain ⟨ad428, e428, hx428_0⟩ := Kd.at_int HR1.out x5_1 p428 q428
             cases e428; replace p428 := eq_true p428; replace q428 := eq_true q428
             go_wp2
             repeat (go_quiet (fail); try go_wp2)
             go_ret
             exact ⟨by first | rfl | (simp; done) | (simp [*]; done), pW⟩
         · rw [if_neg c6] at H
           exact absurd H (by simp)
       · rw [if_neg c5] at H
         exact absurd H (by simp)
     · rw [if_neg c4] at H
       have c4b0 : decide (x5_1 < (l0.length : Int)) = false := decide_eq_false c4
       clear c4
       obtain rfl := sj H
       go_wp2
       repeat (go_quiet (fail); try go_wp2)
       go_ret
       exact ⟨by first | rfl | (simp; done) | (simp [*]; done), pW⟩
 · rw [if_neg c3] at H
   have c3b0 : ((l0.length : Int) == (l1.length : Int)) = false := beq_eq_false_iff_ne.mpr c3
   have c3b1 : ((l0.length : Int) != (l1.length : Int)) = true := bne_iff_ne.mpr c3
   have c3b2 : (l0.length == l1.length) = false := by first | simpa using c3 | (simp at c3 ⊢; omega)
   obtain rfl := sj H
   go_enter Try.func25, Try.ntmps25
   go_wp2
   repeat (go_quiet (fail); try go_wp2)
   go_ret
   exact ⟨by first | rfl | (simp; done) | (simp [*]; done), pW⟩
def laws_eqBytesResult.f (k : Nat) (a0_0 : Int) (l0_1 : List Int) (a1_0 : Int) (l1_1 : List Int) : Option (Bool) := if a0_0 = a1_0 then ((laws_eqByteS.f k l0_1 l1_1).bind fun t431 => (if t431 = true then (some true) else (some false))) else (some false)
theorem laws_eqBytesResult.mono : ∀ a0 a1 a2 a3 k, LeO (laws_eqBytesResult.f k a0 a1 a2 a3) (laws_eqBytesResult.f (k + 1) a0 a1 a2 a3) := by
 intro a0 a1 a2 a3 k
 unfold laws_eqBytesResult.f
 repeat' with_reducible first | exact laws_eqByteS.mono _ _ _ | exact LeO.refl _ | exact LeO.none _ | refine LeO.ite ?_ ?_ | refine LeO.bind ?_ (fun _ => ?_)
theorem laws_eqBytesResult.calls (k : Nat) (a0_0 : Int) (A0_1 : Option Addr) (c0_1 : Nat) (l0_1 : List Int) (a1_0 : Int) (A1_1 : Option Addr) (c1_1 : Nat) (l1_1 : List Int) (r : Bool) (w : World) (hr0_1 : Kd.C (Kd.int .u8) w A0_1 l0_1.length l0_1) (hc0_1 : l0_1.length ≤ c0_1) (hr1_1 : Kd.C (Kd.int .u8) w A1_1 l1_1.length l1_1) (hc1_1 : l1_1.length ≤ c1_1) (h : laws_eqBytesResult.f k a0_0 l0_1 a1_0 l1_1 = some r) :
 Calls Try.prog 30 #[.agg #[.int .i64 a0_0, .slice A0_1 l0_1.length c0_1], .agg #[.int .i64 a1_0, .slice A1_1 l1_1.length c1_1]] w fun e w' => e = .returned (.bool r) ∧ Below w.heap.size w w' := by
 have hu37 := Try.underlying37
 have HR0_1 := am hr0_1; have HC0_1 := am hc0_1; clear hr0_1 hc0_1; have HR1_1 := am hr1_1; have HC1_1 := am hc1_1; clear hr1_1 hc1_1
 have HB := am (Below.refl w.heap.size w)
 have H : (if a0_0 = a1_0 then ((laws_eqByteS.f k l0_1 l1_1).bind fun t431 => (if t431 = true then (some true) else (some false))) else (some false)) = some r := h
 clear h
 by_cases c3 : a0_0 = a1_0
 · rw [if_pos c3] at H
   have c3b0 : (a0_0 == a1_0) = true := beq_iff_eq.mpr c3
   have c3b1 : (a0_0 != a1_0) = false := bne_eq_false_iff_eq.mpr c3
   clear c3
   obtain ⟨t431, A40, H⟩ := bO H
   replace H : (if t431 = true then (some true) else (some false)) = some r := H
   have A4 := am A40; clear A40
   by_cases c5 : t431 = true
   · subst c5
     have H1 : (some true) = some r := by rw [if_pos rfl] at H; exact H
     clear H; have H := H1; clear H1
     obtain rfl := sj H
     go_enter Try.func30, Try.ntmps30
     go_wp2_with (first | ((with_reducible refine gate_dst (N := 2) rfl ?_); refine box_event ?hg (N := 2) ?hd (cs := #[.int .i64 a0_0, .slice A0_1 l0_1.length c0_1]) (t := 37) ?hr ?_; (case hd => rfl); (case hg => rfl); (case hr => first | (go_simp; done) | (go_simp; rfl)); intro gb429 hg w6 hbox hb; have n_ := t4 (bz_ pB hb) (hbox) ((by rw [hg]; exact (bs_ pB) : w.heap.size ≤ gb429)) ((by rw [hg]; exact (bs_ pB) : w.heap.size ≤ gb429)); clear HB; obtain ⟨HB, BK429, GW429, GE429⟩ := n_; clear hb hbox hg) | ((with_reducible refine gate_dst (N := 3) rfl ?_); refine box_event ?hg (N := 3) ?hd (cs := #[.int .i64 a1_0, .slice A1_1 l1_1.length c1_1]) (t := 37) ?hr ?_; (case hd => rfl); (case hg => rfl); (case hr => first | (go_simp; done) | (go_simp; rfl)); intro gb430 hg w7 hbox hb; have n_ := t7 (blk_below (g := gb429) (o := .cells #[.int .i64 a0_0, .slice A0_1 l0_1.length c0_1] 37 (0, 0)) (pK BK429) hb) (bz_ pB hb) (hbox) ((by rw [hg]; exact (bs_ pB) : w.heap.size ≤ gb430)) ((by rw [hg]; exact (bs_ pB) : w.heap.size ≤ gb430)) ((by rw [hg]; exact Nat.ne_of_lt (blk_lt (g := gb429) (o := .cells #[.int .i64 a0_0, .slice A0_1 l0_1.length c0_1] 37 (0, 0)) (pK BK429)) : gb429 ≠ gb430)) ((by rw [hg]; exact Nat.ne_of_gt (blk_lt (g := gb429) (o := .cells #[.int .i64 a0_0, .slice A0_1 l0_1.length c0_1] 37 (0, 0)) (pK BK429)) : gb430 ≠ gb429)); clear BK429 HB; obtain ⟨BK429, HB, BK430, GW430, GE430, NB429_430, NB430_429⟩ := n_; clear hb hbox hg; have hnb8 := NB429_430.out; have hnc8 := NB430_429.out; have hcz9_0 : w7.cell? ⟨gb429, 0, none⟩ = some (.int .i64 a0_0) := (blk_cell BK429.out 0).trans rfl; have hcz9_1 : w7.cell? ⟨gb429, 1, none⟩ = some (.slice A0_1 l0_1.length c0_1) := (blk_cell BK429.out 1).trans rfl; have hfz9_0 := blk_frozen BK429.out 0; have hfz9_1 := blk_frozen BK429.out 1; have hcz10_0 : w7.cell? ⟨gb430, 0, none⟩ = some (.int .i64 a1_0) := (blk_cell BK430.out 0).trans rfl; have hcz10_1 : w7.cell? ⟨gb430, 1, none⟩ = some (.slice A1_1 l1_1.length c1_1) := (blk_cell BK430.out 1).trans rfl; have hfz10_0 := blk_frozen BK430.out 0; have hfz10_1 := blk_frozen BK430.out 1) | ((with_reducible refine gC (f := 25) rfl ?_); refine goesL_ (some 14) rfl rfl Try.func25 (by kernel_rfl) rfl #[.slice A0_1 l0_1.length c0_1, .slice A1_1 l1_1.length c1_1] rfl pA ?_; (with_reducible refine (laws_eqByteS.calls k _ _ l0_1 _ _ l1_1 true _ ?side1 ?side2 ?side3 ?side4 A4.out).mono ?_); (case side1 => exact pC (Kd.C_below HR0_1.out HB.out)); (case side2 => exact HC0_1.out); (case side3 => exact pC (Kd.C_below HR1_1.out HB.out)); (case side4 => exact HC1_1.out); rintro e w' ⟨rfl, ⟨nd, rfl⟩⟩; refine ⟨_, rfl, ?_⟩))
     go_ret
     exact ⟨pE, pB⟩
   · replace c5 := Bool.eq_false_iff.mpr c5
     subst c5
     have H1 : (some false) = some r := by rw [if_neg (show ¬ (false = true) by decide)] at H; exact H
     clear H; have H := H1; clear H1
     obtain rfl := sj H
     go_enter Try.func30, Try.ntmps30
     go_wp2_with (first | ((with_reducible refine gate_dst (N := 2) rfl ?_); refine box_event ?hg (N := 2) ?hd (cs := #[.int .i64 a0_0, .slice A0_1 l0_1.length c0_1]) (t := 37) ?hr ?_; (case hd => rfl); (case hg => rfl); (case hr => first | (go_simp; done) | (go_simp; rfl)); intro gb429 hg w11 hbox hb; have n_ := t4 (bz_ pB hb) (hbox) ((by rw [hg]; exact (bs_ pB) : w.heap.size ≤ gb429)) ((by rw [hg]; exact (bs_ pB) : w.heap.size ≤ gb429)); clear HB; obtain ⟨HB, BK429, GW429, GE429⟩ := n_; clear hb hbox hg) | ((with_reducible refine gate_dst (N := 3) rfl ?_); refine box_event ?hg (N := 3) ?hd (cs := #[.int .i64 a1_0, .slice A1_1 l1_1.length c1_1]) (t := 37) ?hr ?_; (case hd => rfl); (case hg => rfl); (case hr => first | (go_simp; done) | (go_simp; rfl)); intro gb430 hg w12 hbox hb; have n_ := t7 (blk_below (g := gb429) (o := .cells #[.int .i64 a0_0, .slice A0_1 l0_1.length c0_1] 37 (0, 0)) (pK BK429) hb) (bz_ pB hb) (hbox) ((by rw [hg]; exact (bs_ pB) : w.heap.size ≤ gb430)) ((by rw [hg]; exact (bs_ pB) : w.heap.size ≤ gb430)) ((by rw [hg]; exact Nat.ne_of_lt (blk_lt (g := gb429) (o := .cells #[.int .i64 a0_0, .slice A0_1 l0_1.length c0_1] 37 (0, 0)) (pK BK429)) : gb429 ≠ gb430)) ((by rw [hg]; exact Nat.ne_of_gt (blk_lt (g := gb429) (o := .cells #[.int .i64 a0_0, .slice A0_1 l0_1.length c0_1] 37 (0, 0)) (pK BK429)) : gb430 ≠ gb429)); clear BK429 HB; obtain ⟨BK429, HB, BK430, GW430, GE430, NB429_430, NB430_429⟩ := n_; clear hb hbox hg; have hnb13 := NB429_430.out; have hnc13 := NB430_429.out; have hcz14_0 : w12.cell? ⟨gb429, 0, none⟩ = some (.int .i64 a0_0) := (blk_cell BK429.out 0).trans rfl; have hcz14_1 : w12.cell? ⟨gb429, 1, none⟩ = some (.slice A0_1 l0_1.length c0_1) := (blk_cell BK429.out 1).trans rfl; have hfz14_0 := blk_frozen BK429.out 0; have hfz14_1 := blk_frozen BK429.out 1; have hcz15_0 : w12.cell? ⟨gb430, 0, none⟩ = some (.int .i64 a1_0) := (blk_cell BK430.out 0).trans rfl; have hcz15_1 : w12.cell? ⟨gb430, 1, none⟩ = some (.slice A1_1 l1_1.length c1_1) := (blk_cell BK430.out 1).trans rfl; have hfz15_0 := blk_frozen BK430.out 0; have hfz15_1 := blk_frozen BK430.out 1) | ((with_reducible refine gC (f := 25) rfl ?_); refine goesL_ (some 14) rfl rfl Try.func25 (by kernel_rfl) rfl #[.slice A0_1 l0_1.length c0_1, .slice A1_1 l1_1.length c1_1] rfl pA ?_; (with_reducible refine (laws_eqByteS.calls k _ _ l0_1 _ _ l1_1 false _ ?side1 ?side2 ?side3 ?side4 A4.out).mono ?_); (case side1 => exact pC (Kd.C_below HR0_1.out HB.out)); (case side2 => exact HC0_1.out); (case side3 => exact pC (Kd.C_below HR1_1.out HB.out)); (case side4 => exact HC1_1.out); rintro e w' ⟨rfl, ⟨nd, rfl⟩⟩; refine ⟨_, rfl, ?_⟩))
     go_ret
     exact ⟨pE, pB⟩
 · rw [if_neg c3] at H
   have c3b0 : (a0_0 == a1_0) = false := beq_eq_false_iff_ne.mpr c3
   have c3b1 : (a0_0 != a1_0) = true := bne_iff_ne.mpr c3
   obtain rfl := sj H
   go_enter Try.func30, Try.ntmps30
   go_wp2_with (first | ((with_reducible refine gate_dst (N := 2) rfl ?_); refine box_event ?hg (N := 2) ?hd (cs := #[.int .i64 a0_0, .slice A0_1 l0_1.length c0_1]) (t := 37) ?hr ?_; (case hd => rfl); (case hg => rfl); (case hr => first | (go_simp; done) | (go_simp; rfl)); intro gb429 hg w16 hbox hb; have n_ := t4 (bz_ pB hb) (hbox) ((by rw [hg]; exact (bs_ pB) : w.heap.size ≤ gb429)) ((by rw [hg]; exact (bs_ pB) : w.heap.size ≤ gb429)); clear HB; obtain ⟨HB, BK429, GW429, GE429⟩ := n_; clear hb hbox hg) | ((with_reducible refine gate_dst (N := 3) rfl ?_); refine box_event ?hg (N := 3) ?hd (cs := #[.int .i64 a1_0, .slice A1_1 l1_1.length c1_1]) (t := 37) ?hr ?_; (case hd => rfl); (case hg => rfl); (case hr => first | (go_simp; done) | (go_simp; rfl)); intro gb430 hg w17 hbox hb; have n_ := t7 (blk_below (g := gb429) (o := .cells #[.int .i64 a0_0, .slice A0_1 l0_1.length c0_1] 37 (0, 0)) (pK BK429) hb) (bz_ pB hb) (hbox) ((by rw [hg]; exact (bs_ pB) : w.heap.size ≤ gb430)) ((by rw [hg]; exact (bs_ pB) : w.heap.size ≤ gb430)) ((by rw [hg]; exact Nat.ne_of_lt (blk_lt (g := gb429) (o := .cells #[.int .i64 a0_0, .slice A0_1 l0_1.length c0_1] 37 (0, 0)) (pK BK429)) : gb429 ≠ gb430)) ((by rw [hg]; exact Nat.ne_of_gt (blk_lt (g := gb429) (o := .cells #[.int .i64 a0_0, .slice A0_1 l0_1.length c0_1] 37 (0, 0)) (pK BK429)) : gb430 ≠ gb429)); clear BK429 HB; obtain ⟨BK429, HB, BK430, GW430, GE430, NB429_430, NB430_429⟩ := n_; clear hb hbox hg; have hnb18 := NB429_430.out; have hnc18 := NB430_429.out; have hcz19_0 : w17.cell? ⟨gb429, 0, none⟩ = some (.int .i64 a0_0) := (blk_cell BK429.out 0).trans rfl; have hcz19_1 : w17.cell? ⟨gb429, 1, none⟩ = some (.slice A0_1 l0_1.length c0_1) := (blk_cell BK429.out 1).trans rfl; have hfz19_0 := blk_frozen BK429.out 0; have hfz19_1 := blk_frozen BK429.out 1; have hcz20_0 : w17.cell? ⟨gb430, 0, none⟩ = some (.int .i64 a1_0) := (blk_cell BK430.out 0).trans rfl; have hcz20_1 : w17.cell? ⟨gb430, 1, none⟩ = some (.slice A1_1 l1_1.length c1_1) := (blk_cell BK430.out 1).trans rfl; have hfz20_0 := blk_frozen BK430.out 0; have hfz20_1 := blk_frozen BK430.out 1))
   go_ret
   exact ⟨pE, pB⟩
/-- What stores of numbers into numbers leave as it was. -/
structure Turn (w0 : World) (P : Nat → Prop) (w w' : World) : Prop where
 below : Below w0.heap.size w0 w'
 kept : Kept w w' P
 ints : ∀ a x, w.cell? a = some (.int .i64 x) → ∃ y, w'.cell? a = some (.int .i64 y)
 rest : ∀ a v, w.cell? a = some v → (∀ x, v ≠ .int .i64 x) → w'.cell? a = some v
 froz : ∀ a v, w.cell? a = some v → w.frozen? a = false → w'.frozen? a = false
theorem Turn.refl {w0 w : World} (P : Nat → Prop) (hB : Below w0.heap.size w0 w) : Turn w0 P w w :=
 ⟨hB, Kept.refl w P, fun _ x h => ⟨x, h⟩, fun _ _ h _ => h, fun _ _ _ h => h⟩
theorem Turn.then_ {w0 w w1 w2 : World} {P : Nat → Prop} (h : Turn w0 P w w1) (k : Turn w0 P w1 w2) : Turn w0 P w w2 :=
 ⟨k.below, h.kept.then_ k.kept (fun _ hk => .inl hk), fun a x hx => by obtain ⟨y, hy⟩ := h.ints a x hx; exact k.ints a y hy, fun a v hv hn => k.rest a v (h.rest a v hv hn) hn, fun a v hv ha => by
  by_cases hi : ∃ x, v = .int .i64 x
  · obtain ⟨x, rfl⟩ := hi
    obtain ⟨y, hy⟩ := h.ints a x hv
    exact k.froz a _ hy (h.froz a _ hv ha)
  · exact k.froz a v (h.rest a v hv (fun x e => hi ⟨x, e⟩)) (h.froz a v hv ha)⟩
theorem Turn.set {w0 w w1 : World} {P : Nat → Prop} (h : Turn w0 P w w1) {g j : Nat} {x : Int} (hx : w1.cell? ⟨g, j, none⟩ = some (.int .i64 x)) (hP : P g) (hb : w0.heap.size ≤ g) (y : Int) : Turn w0 P w (w1.setCell ⟨g, j, none⟩ (.int .i64 y)) :=
 ⟨below_set h.below hb, h.kept.setCell (.inl hP) _, fun a z hz => by
  obtain ⟨z', hz'⟩ := h.ints a z hz
  by_cases e : (⟨g, j, none⟩ : Addr) = a
  · subst e; exact ⟨y, World.cell?_setCell_same _ _ _ hz'⟩
  · exact ⟨z', (World.cell?_setCell_other _ _ _ _ e).trans hz'⟩, fun a v hv hn => by
  have hv' := h.rest a v hv hn
  by_cases e : (⟨g, j, none⟩ : Addr) = a
  · subst e; rw [hx] at hv'; exact absurd (sj hv').symm (hn x)
  · exact (World.cell?_setCell_other _ _ _ _ e).trans hv', fun a v hv ha => by rw [World.frozen?_setCell]; exact h.froz a v hv ha⟩
/-- A row of numbers that may be written. -/
def IntsAt (w0 : World) (P : Nat → Prop) (w : World) (v : Value) (n : Nat) : Prop :=
 ∃ A c, v = .slice A n c ∧ ∀ j, j < n → ∃ g x, A = some ⟨g, 0, none⟩ ∧ w.cell? ⟨g, j, none⟩ = some (.int .i64 x) ∧ w.frozen? ⟨g, j, none⟩ = false ∧ P g ∧ w0.heap.size ≤ g
theorem Turn.row {w0 w w' : World} {P : Nat → Prop} (h : Turn w0 P w w') {v : Value} {n : Nat} (hs : IntsAt w0 P w v n) : IntsAt w0 P w' v n := by
 obtain ⟨A, c, rfl, hj⟩ := hs
 refine ⟨A, c, rfl, fun j hlt => ?_⟩
 obtain ⟨g, x, rfl, h1, h2, h3, h4⟩ := hj j hlt
 obtain ⟨y, hy⟩ := h.ints _ _ h1
 exact ⟨g, y, rfl, hy, h.froz _ _ h1 h2, h3, h4⟩
theorem IntsAt.of_R {w0 w : World} {P ok : Nat → Prop} {v : Value} {xs : List Int} (h : Kd.R (Kd.int .i64) 2 w w0.heap.size ok v xs) (hP : ∀ k, ok k → P k) : IntsAt w0 P w v xs.length := by
 obtain ⟨A, c, rfl⟩ := rS h
 refine ⟨A, c, rfl, fun j hlt => ?_⟩
 obtain ⟨g, cap, e, hg, _, _⟩ := Kd.R_form h (by omega)
 injection e with e1 _ _
 subst e1
 obtain ⟨h1, h2⟩ := Kd.R_celln 0 h (j : Int) (by omega) (by omega)
 rw [Int.toNat_natCast] at h1 h2
 exact ⟨g, _, rfl, h1, h2, hP _ (h.1 g rfl), hg⟩
/-- A row of records, each of q numbers and a row of numbers behind them. -/
def RecsAt (q : Nat) (w0 : World) (P : Nat → Prop) (w : World) (v : Value) (ns : List Nat) : Prop :=
 ∃ A c, v = .slice A ns.length c ∧ ∀ i (hi : i < ns.length), ∃ g u, A = some ⟨g, 0, none⟩ ∧ (∀ j, j < q → ∃ x, w.cell? ⟨g, i * (q + 1) + j, none⟩ = some (.int .i64 x) ∧ w.frozen? ⟨g, i * (q + 1) + j, none⟩ = false) ∧ w.cell? ⟨g, i * (q + 1) + q, none⟩ = some u ∧ IntsAt w0 P w u ns[i] ∧ P g ∧ w0.heap.size ≤ g
theorem Turn.recs {q : Nat} {w0 w w' : World} {P : Nat → Prop} (h : Turn w0 P w w') {v : Value} {ns : List Nat} (hs : RecsAt q w0 P w v ns) : RecsAt q w0 P w' v ns := by
 obtain ⟨A, c, rfl, hj⟩ := hs
 refine ⟨A, c, rfl, fun i hi => ?_⟩
 obtain ⟨g, u, rfl, h1, h2, h3, h4, h5⟩ := hj i hi
 refine ⟨g, u, rfl, fun j hjq => ?_, h.rest _ _ h2 (fun x e => by obtain ⟨_, _, e2, _⟩ := h3; rw [e2] at e; cases e), h.row h3, h4, h5⟩
 obtain ⟨x, hx, hf⟩ := h1 j hjq
 obtain ⟨y, hy⟩ := h.ints _ _ hx
 exact ⟨y, hy, h.froz _ _ hx hf⟩
set_option maxHeartbeats 1000000 in
set_option maxRecDepth 100000 in
theorem mark64 (n : Nat) (u : Value) (a1 : Int) (w0 w : World) (P : Nat → Prop) (hB : Below w0.heap.size w0 w) (hs : IntsAt w0 P w u n) (h0 : 0 ≤ a1) (h1 : a1 + n ≤ 4611686018427387904) :
 Calls Try.prog 127 #[u, .int .i64 a1] w fun e w' => e = .returned (.int .i64 (a1 + n)) ∧ Turn w0 P w w' := by
 have HT := am (Turn.refl P hB)
 obtain ⟨A, c, rfl, _⟩ := id hs
 have HS := am hs; clear hs
 go_enter Try.func127, Try.ntmps127
 go_wp2
 go_loopg [1, 5] n (fun kq v1 v5 w' => ∃ (x1 x5 : Int), v1 = .int .i64 x1 ∧ v5 = .int .i64 x5 ∧ Aside0 (0 ≤ x5 ∧ x5 + kq = n ∧ x1 = a1 + x5) ∧ Aside0 (Turn w0 P w w'))
 case atStart => exact ⟨a1, 0, rfl, rfl, ⟨by omega⟩, HT⟩
 case round =>
  obtain ⟨x1, x5, rfl, rfl, HX, HT⟩ := hrel
  have ⟨hx0, hxn, _⟩ := HX.out
  rename_i hx1_
  clear hx1_
  by_cases c3 : x5 < (n : Int)
  · have c3b : decide (x5 < (n : Int)) = true := dt c3
    have c4b : decide (0 ≤ x5) = true := dt hx0
    obtain ⟨A', c', e', hj⟩ := HT.out.row HS.out
    injection e' with ea _ ec
    subst ea; subst ec
    obtain ⟨g, z, ea, hz, hf, hP, hg⟩ := hj x5.toNat (by omega)
    subst ea
    have p5 := eq_true hx0
    have q5 := eq_true c3
    have hw1 : wrap64 (x1 + 1) = x1 + 1 := by have := HX.out; unfold wrap64; omega
    have hw5 : wrap64 (x5 + 1) = x5 + 1 := by unfold wrap64; omega
    go_wp2_with (first | ((with_reducible refine gate_store (t := 2) (p := 15) rfl ?_); refine store_event (t := 2) (p := 15) (v := ?vo_w8) (w1 := (wr.setCell ⟨g, x5.toNat, none⟩ (.int .i64 x1))) ?hg ?ho ?hn ?hr ?_; (case ho => rfl); (case hg => rfl); (case hn => rfl); (case hr => first | (go_simp; done) | (go_simp; rfl)); intro w8 hw; have HT2 := am (show Turn w0 P w w8 by rw [hw]; exact HT.out.set hz hP hg x1); clear hw hz hf))
    go_roundg (gk - 1)
    case measure => omega
    case rel => exact ⟨x1 + 1, x5 + 1, (by first | rfl | (simp [hw1]; done)), (by first | rfl | (simp [hw5]; done)), ⟨by have := HX.out; omega⟩, HT2⟩
  · have c3b : decide (x5 < (n : Int)) = false := decide_eq_false c3
    go_wp2
    go_ret
    have e : x1 = a1 + n := by have := HX.out; omega
    subst e
    exact ⟨rfl, HT.out⟩
theorem RecsAt.form {q : Nat} {w0 w : World} {P : Nat → Prop} {A : Option Addr} {n c : Nat} {ns : List Nat} (h : RecsAt q w0 P w (.slice A n c) ns) (hp : 0 < ns.length) : ∃ g, A = some ⟨g, 0, none⟩ := by
 obtain ⟨A', c', e, hj⟩ := h
 injection e with e1 _ _
 subst e1
 obtain ⟨g, u, rfl, _⟩ := hj 0 hp
 exact ⟨g, rfl⟩
theorem RecsAt.at_g {q : Nat} {w0 w : World} {P : Nat → Prop} {g n c : Nat} {ns : List Nat} (h : RecsAt q w0 P w (.slice (some ⟨g, 0, none⟩) n c) ns) (i : Nat) (hi : i < ns.length) :
 (∀ j, j < q → ∃ x, w.cell? ⟨g, i * (q + 1) + j, none⟩ = some (.int .i64 x) ∧ w.frozen? ⟨g, i * (q + 1) + j, none⟩ = false) ∧ (∃ u, w.cell? ⟨g, i * (q + 1) + q, none⟩ = some u ∧ IntsAt w0 P w u ns[i]) ∧ P g ∧ w0.heap.size ≤ g := by
 obtain ⟨A', c', e, hj⟩ := h
 injection e with e1 _ _
 subst e1
 obtain ⟨g', u, e, h1, h2, h3, h4, h5⟩ := hj i hi
 obtain rfl : g = g' := by injection (sj e)
 exact ⟨h1, ⟨u, h2, h3⟩, h4, h5⟩
/-- How many marks the first i records take. -/
def upTo (q : Nat) (ns : List Nat) (i : Nat) : Nat := ((ns.take i).map (· + q)).sum
theorem upTo_succ (q : Nat) (ns : List Nat) (i : Nat) (h : i < ns.length) : upTo q ns (i + 1) = upTo q ns i + (ns[i] + q) := by
 unfold upTo
 rw [List.take_add_one, List.getElem?_eq_getElem h]
 simp only [List.map_append, List.sum_append, Option.toList, List.map_cons, List.map_nil, List.sum_cons, List.sum_nil, Nat.add_zero]
theorem upTo_le (q : Nat) (ns : List Nat) (i : Nat) (h : i ≤ ns.length) : upTo q ns i ≤ upTo q ns ns.length := by
 obtain ⟨d, hd⟩ : ∃ d, ns.length = i + d := ⟨ns.length - i, by omega⟩
 rw [hd]
 clear h
 have : ∀ d, i + d ≤ ns.length → upTo q ns i ≤ upTo q ns (i + d) := by
  intro d
  induction d with
  | zero => intro _; exact Nat.le_refl _
  | succ d ih => intro h; have := ih (by omega); rw [← Nat.add_assoc, upTo_succ q ns (i + d) (by omega)]; omega
 exact this d (by omega)
set_option maxHeartbeats 1000000 in
set_option maxRecDepth 100000 in
theorem markIn (ns : List Nat) (u : Value) (a1 : Int) (w0 w : World) (P : Nat → Prop) (hB : Below w0.heap.size w0 w) (hs : RecsAt 2 w0 P w u ns) (h0 : 0 ≤ a1) (h1 : a1 + upTo 2 ns ns.length ≤ 4611686018427387904) (hn : ns.length ≤ 4611686018427387904) :
 Calls Try.prog 72 #[u, .int .i64 a1] w fun e w' => e = .returned (.int .i64 (a1 + upTo 2 ns ns.length)) ∧ Turn w0 P w w' := by
 have HT := am (Turn.refl P hB)
 obtain ⟨A, c, rfl, _⟩ := id hs
 have HS := am hs; clear hs
 go_enter Try.func72, Try.ntmps72
 go_wp2
 go_loopg [1, 5] ns.length (fun kq v1 v5 w' => ∃ (x1 x5 : Int), v1 = .int .i64 x1 ∧ v5 = .int .i64 x5 ∧ Aside0 (0 ≤ x5 ∧ x5 + kq = ns.length ∧ x1 = a1 + upTo 2 ns x5.toNat) ∧ Aside0 (Turn w0 P w w'))
 case atStart => exact ⟨a1, 0, rfl, rfl, ⟨by simp [upTo]⟩, HT⟩
 case round =>
  obtain ⟨x1, x5, rfl, rfl, HX, HT⟩ := hrel
  have ⟨hx0, hxn, _⟩ := HX.out
  rename_i hx1_
  clear hx1_
  by_cases c3 : x5 < (ns.length : Int)
  · have c3b : decide (x5 < (ns.length : Int)) = true := dt c3
    have c4b : decide (0 ≤ x5) = true := dt hx0
    have hlt : x5.toNat < ns.length := by omega
    obtain ⟨g, rfl⟩ := HS.out.form (by omega)
    obtain ⟨hcs, _, hP, hg⟩ := (HT.out.recs HS.out).at_g x5.toNat hlt
    obtain ⟨z0, hz0, hf0⟩ := hcs 0 (by omega)
    clear hcs
    have hz0' : wr.cell? ⟨g, x5.toNat * 3, none⟩ = some (.int .i64 z0) := hz0
    have hf0' : wr.frozen? ⟨g, x5.toNat * 3, none⟩ = false := hf0
    clear hz0 hf0
    have hle := upTo_le 2 ns (x5.toNat + 1) (by omega)
    rw [upTo_succ 2 ns x5.toNat hlt] at hle
    have HL := am hle; clear hle
    have p5 := eq_true hx0
    have q5 := eq_true c3
    have hw1 : wrap64 (x1 + 1) = x1 + 1 := by have := HX.out; have := HL.out; unfold wrap64; omega
    have hw2 : wrap64 (x1 + 1 + 1) = x1 + 1 + 1 := by have := HX.out; have := HL.out; unfold wrap64; omega
    have hw5 : wrap64 (x5 + 1) = x5 + 1 := by unfold wrap64; omega
    go_wp2_with (first | ((with_reducible refine gate_store (t := 2) (p := 16) rfl ?_); refine store_event (t := 2) (p := 16) (v := ?vo_w8) (w1 := (wr.setCell ⟨g, x5.toNat * 3, none⟩ (.int .i64 x1))) ?hg ?ho ?hn ?hr ?_; (case ho => rfl); (case hg => rfl); (case hn => rfl); (case hr => first | (go_simp; done) | (go_simp; rfl)); intro w8 hw; have HT2 := am (show Turn w0 P w w8 by rw [hw]; exact HT.out.set hz0' hP hg x1); clear hw hz0' hf0'; obtain ⟨hcs, _, _, _⟩ := (HT2.out.recs HS.out).at_g x5.toNat hlt; obtain ⟨z1, hz1, hf1⟩ := hcs 1 (by omega); clear hcs; have hz1' : w8.cell? ⟨g, x5.toNat * 3 + 1, none⟩ = some (.int .i64 z1) := hz1; have hf1' : w8.frozen? ⟨g, x5.toNat * 3 + 1, none⟩ = false := hf1; clear hz1 hf1) | ((with_reducible refine gate_store (t := 2) (p := 23) rfl ?_); refine store_event (t := 2) (p := 23) (v := ?vo_w9) (w1 := (w8.setCell ⟨g, x5.toNat * 3 + 1, none⟩ (.int .i64 (wrap64 (x1 + 1))))) ?hg ?ho ?hn ?hr ?_; (case ho => rfl); (case hg => rfl); (case hn => rfl); (case hr => first | (go_simp; done) | (go_simp; rfl)); intro w9 hw; have HT3 := am (show Turn w0 P w w9 by rw [hw]; exact HT2.out.set hz1' hP hg _); clear hw hz1' hf1'; obtain ⟨_, ⟨u9, hu9, hI9⟩, _, _⟩ := (HT3.out.recs HS.out).at_g x5.toNat hlt; have hu9' : w9.cell? ⟨g, x5.toNat * 3 + 2, none⟩ = some u9 := hu9; have HI9 := am hI9; clear hu9 hI9) | (go_at_call 127; refine (mark64 ns[x5.toNat] u9 _ w0 _ P HT3.out.below HI9.out ?hA ?hB).mono ?_; (case hA => have := HX.out; have := HL.out; omega); (case hB => have := HX.out; have := HL.out; omega); rintro e w10 ⟨rfl, ht⟩; have HT4 := am (HT3.out.then_ ht); clear ht hu9'))
    go_roundg (gk - 1)
    case measure => omega
    case rel =>
     refine ⟨_, x5 + 1, rfl, (by first | rfl | (simp [hw5]; done)), ⟨?_⟩, HT4⟩
     have := HX.out
     have := HL.out
     rw [show (x5 + 1).toNat = x5.toNat + 1 by omega, upTo_succ 2 ns x5.toNat hlt]
     omega
  · have c3b : decide (x5 < (ns.length : Int)) = false := decide_eq_false c3
    go_wp2
    go_ret
    have e : x1 = a1 + upTo 2 ns ns.length := by have := HX.out; rw [this.2.2, show x5.toNat = ns.length by omega]
    subst e
    exact ⟨rfl, HT.out⟩
set_option maxHeartbeats 1000000 in
set_option maxRecDepth 100000 in
theorem markOut (ns : List Nat) (u : Value) (a1 : Int) (w0 w : World) (P : Nat → Prop) (hB : Below w0.heap.size w0 w) (hs : RecsAt 1 w0 P w u ns) (h0 : 0 ≤ a1) (h1 : a1 + upTo 1 ns ns.length ≤ 4611686018427387904) (hn : ns.length ≤ 4611686018427387904) :
 Calls Try.prog 73 #[u, .int .i64 a1] w fun e w' => e = .returned (.int .i64 (a1 + upTo 1 ns ns.length)) ∧ Turn w0 P w w' := by
 have HT := am (Turn.refl P hB)
 obtain ⟨A, c, rfl, _⟩ := id hs
 have HS := am hs; clear hs
 go_enter Try.func73, Try.ntmps73
 go_wp2
 go_loopg [1, 5] ns.length (fun kq v1 v5 w' => ∃ (x1 x5 : Int), v1 = .int .i64 x1 ∧ v5 = .int .i64 x5 ∧ Aside0 (0 ≤ x5 ∧ x5 + kq = ns.length ∧ x1 = a1 + upTo 1 ns x5.toNat) ∧ Aside0 (Turn w0 P w w'))
 case atStart => exact ⟨a1, 0, rfl, rfl, ⟨by simp [upTo]⟩, HT⟩
 case round =>
  obtain ⟨x1, x5, rfl, rfl, HX, HT⟩ := hrel
  have ⟨hx0, hxn, _⟩ := HX.out
  rename_i hx1_
  clear hx1_
  by_cases c3 : x5 < (ns.length : Int)
  · have c3b : decide (x5 < (ns.length : Int)) = true := dt c3
    have c4b : decide (0 ≤ x5) = true := dt hx0
    have hlt : x5.toNat < ns.length := by omega
    obtain ⟨g, rfl⟩ := HS.out.form (by omega)
    obtain ⟨hcs, _, hP, hg⟩ := (HT.out.recs HS.out).at_g x5.toNat hlt
    obtain ⟨z0, hz0, hf0⟩ := hcs 0 (by omega)
    clear hcs
    have hz0' : wr.cell? ⟨g, x5.toNat * 2, none⟩ = some (.int .i64 z0) := hz0
    have hf0' : wr.frozen? ⟨g, x5.toNat * 2, none⟩ = false := hf0
    clear hz0 hf0
    have hle := upTo_le 1 ns (x5.toNat + 1) (by omega)
    rw [upTo_succ 1 ns x5.toNat hlt] at hle
    have HL := am hle; clear hle
    have p5 := eq_true hx0
    have q5 := eq_true c3
    have hw1 : wrap64 (x1 + 1) = x1 + 1 := by have := HX.out; have := HL.out; unfold wrap64; omega
    have hw5 : wrap64 (x5 + 1) = x5 + 1 := by unfold wrap64; omega
    go_wp2_with (first | ((with_reducible refine gate_store (t := 2) (p := 16) rfl ?_); refine store_event (t := 2) (p := 16) (v := ?vo_w8) (w1 := (wr.setCell ⟨g, x5.toNat * 2, none⟩ (.int .i64 x1))) ?hg ?ho ?hn ?hr ?_; (case ho => rfl); (case hg => rfl); (case hn => rfl); (case hr => first | (go_simp; done) | (go_simp; rfl)); intro w8 hw; have HT2 := am (show Turn w0 P w w8 by rw [hw]; exact HT.out.set hz0' hP hg x1); clear hw hz0' hf0'; obtain ⟨_, ⟨u9, hu9, hI9⟩, _, _⟩ := (HT2.out.recs HS.out).at_g x5.toNat hlt; have hu9' : w8.cell? ⟨g, x5.toNat * 2 + 1, none⟩ = some u9 := hu9; have HI9 := am hI9; clear hu9 hI9) | (go_at_call 127; refine (mark64 ns[x5.toNat] u9 _ w0 _ P HT2.out.below HI9.out ?hA ?hB).mono ?_; (case hA => have := HX.out; have := HL.out; omega); (case hB => have := HX.out; have := HL.out; omega); rintro e w10 ⟨rfl, ht⟩; have HT4 := am (HT2.out.then_ ht); clear ht hu9'))
    go_roundg (gk - 1)
    case measure => omega
    case rel =>
     refine ⟨_, x5 + 1, rfl, (by first | rfl | (simp [hw5]; done)), ⟨?_⟩, HT4⟩
     have := HX.out
     have := HL.out
     rw [show (x5 + 1).toNat = x5.toNat + 1 by omega, upTo_succ 1 ns x5.toNat hlt]
     omega
  · have c3b : decide (x5 < (ns.length : Int)) = false := decide_eq_false c3
    go_wp2
    go_ret
    have e : x1 = a1 + upTo 1 ns ns.length := by have := HX.out; rw [this.2.2, show x5.toNat = ns.length by omega]
    subst e
    exact ⟨rfl, HT.out⟩
theorem Turn.of_below {w0 w w1 : World} {P : Nat → Prop} (hB : Below w0.heap.size w0 w) (hb : Below w.heap.size w w1) : Turn w0 P w w1 :=
 have hc : ∀ a v, w.cell? a = some v → w1.cell? a = some v := fun a v h => (hb.cell (World.block_lt_of_cell? w a h)).trans h
 ⟨bz_ hB hb, Kept.of_below hb P, fun a x h => ⟨x, hc a _ h⟩, fun a v h _ => hc a v h, fun a v hv h => by
  have hlt := World.block_lt_of_cell? w a hv
  unfold World.frozen? at h ⊢
  rw [hb.block a.block hlt]; exact h⟩
theorem recs_In {w0 w : World} {ok : Nat → Prop} {v : Value} {xs : List (S34)} (h : Kd.R k34 34 w w0.heap.size ok v xs) : RecsAt 2 w0 ok w v (xs.map fun x => x.f2.length) := by
 obtain ⟨A, c, rfl⟩ := rS h
 refine ⟨A, c, by rw [List.length_map], fun i hi => ?_⟩
 rw [List.length_map] at hi
 obtain ⟨g, cap, e, hg, _, _⟩ := Kd.R_form h (by omega)
 injection e with e1 _ _
 subst e1
 obtain ⟨cs, hl, hM, hc, hf⟩ := Kd.R_elem h z34 (i : Int) (by omega) (by omega)
 rw [Int.toNat_natCast] at hM hc hf
 obtain ⟨v2, rfl, hr⟩ := k34_openM hM
 refine ⟨g, v2, rfl, fun j hj => ?_, hc 2 v2 rfl, ?_, h.1 g rfl, hg⟩
 · match j, hj with
   | 0, _ => exact ⟨_, hc 0 _ rfl, hf 0⟩
   | 1, _ => exact ⟨_, hc 1 _ rfl, hf 1⟩
 · have hz := IntsAt.of_R (w0 := w0) (P := ok) hr (fun k hk => hk.1)
   rw [List.getElem_map]
   have e2 : xs.getD i z34 = xs[i] := by rw [List.getD_eq_getElem?_getD, List.getElem?_eq_getElem hi]; rfl
   rw [e2] at hz
   exact hz
theorem recs_Out {w0 w : World} {ok : Nat → Prop} {v : Value} {xs : List (S86)} (h : Kd.R k86 86 w w0.heap.size ok v xs) : RecsAt 1 w0 ok w v (xs.map fun x => x.f1.length) := by
 obtain ⟨A, c, rfl⟩ := rS h
 refine ⟨A, c, by rw [List.length_map], fun i hi => ?_⟩
 rw [List.length_map] at hi
 obtain ⟨g, cap, e, hg, _, _⟩ := Kd.R_form h (by omega)
 injection e with e1 _ _
 subst e1
 obtain ⟨cs, hl, hM, hc, hf⟩ := Kd.R_elem h z86 (i : Int) (by omega) (by omega)
 rw [Int.toNat_natCast] at hM hc hf
 obtain ⟨v1, rfl, hr⟩ := k86_openM hM
 refine ⟨g, v1, rfl, fun j hj => ?_, hc 1 v1 rfl, ?_, h.1 g rfl, hg⟩
 · match j, hj with
   | 0, _ => exact ⟨_, hc 0 _ rfl, hf 0⟩
 · have hz := IntsAt.of_R (w0 := w0) (P := ok) hr (fun k hk => hk.1)
   rw [List.getElem_map]
   have e2 : xs.getD i z86 = xs[i] := by rw [List.getD_eq_getElem?_getD, List.getElem?_eq_getElem hi]; rfl
   rw [e2] at hz
   exact hz
theorem RecsAt.more {q : Nat} {w0 w : World} {P Q : Nat → Prop} {v : Value} {ns : List Nat} (h : RecsAt q w0 P w v ns) (hPQ : ∀ k, P k → Q k) : RecsAt q w0 Q w v ns := by
 obtain ⟨A, c, rfl, hj⟩ := h
 refine ⟨A, c, rfl, fun i hi => ?_⟩
 obtain ⟨g, u, rfl, h1, h2, ⟨A2, c2, rfl, h3⟩, h4, h5⟩ := hj i hi
 exact ⟨g, _, rfl, h1, h2, ⟨A2, c2, rfl, fun j hj => by obtain ⟨g2, x, h6, h7, h8, h9, h10⟩ := h3 j hj; exact ⟨g2, x, h6, h7, h8, hPQ _ h9, h10⟩⟩, hPQ _ h4, h5⟩
theorem count_le (q : Nat) (ns : List Nat) (hq : 0 < q) : ns.length ≤ upTo q ns ns.length := by
 have : ∀ d, d ≤ ns.length → d ≤ upTo q ns d := by
  intro d
  induction d with
  | zero => intro _; exact Nat.zero_le _
  | succ d ih => intro h; have := ih (by omega); rw [upTo_succ q ns d (by omega)]; omega
 exact this _ (Nat.le_refl _)
/-- How many marks a transaction takes. -/
def marksOf (l1 : List (S34)) (l2 : List (S86)) : Nat := upTo 2 (l1.map fun x => x.f2.length) l1.length + upTo 1 (l2.map fun x => x.f1.length) l2.length
def laws_markTx.f (a0_0 : Int) (l0_1 : List (S34)) (l0_2 : List (S86)) (a1 : Int) : Option (Int) := if 0 ≤ a1 ∧ a1 + marksOf l0_1 l0_2 ≤ 4611686018427387904 then some (a1 + marksOf l0_1 l0_2) else none
set_option maxHeartbeats 1000000 in
set_option maxRecDepth 100000 in
theorem laws_markTx.calls (a0_0 : Int) (P0_1_ : Nat → Prop) (u9000_ : Value) (l0_1 : List (S34)) (P0_2_ : Nat → Prop) (u9001_ : Value) (l0_2 : List (S86)) (a1 : Int) (r : Int) (w0 w : World) (hB : Below w0.heap.size w0 w) (ho0_1 : Kd.R k34 34 w w0.heap.size P0_1_ u9000_ l0_1) (ho0_2 : Kd.R k86 86 w w0.heap.size P0_2_ u9001_ l0_2) (h : laws_markTx.f a0_0 l0_1 l0_2 a1 = some r) :
 Calls Try.prog 31 #[.agg #[.int .i64 a0_0, u9000_, u9001_], .int .i64 a1] w fun e w' => e = .returned (.int .i64 r) ∧ Below w0.heap.size w0 w' ∧ Kept w w' (fun k_ => P0_1_ k_ ∨ P0_2_ k_) := by
 have hu := Try.underlying27
 have S1 := am ((recs_In (Kd.R_bound ho0_1)).more (Q := fun k_ => (P0_1_ k_ ∨ P0_2_ k_) ∧ k_ < w.heap.size) (fun _ hk => ⟨.inl hk.1, hk.2.2.1⟩))
 have S2 := am ((recs_Out (Kd.R_bound ho0_2)).more (Q := fun k_ => (P0_1_ k_ ∨ P0_2_ k_) ∧ k_ < w.heap.size) (fun _ hk => ⟨.inr hk.1, hk.2.2.1⟩))
 obtain ⟨A1, c1, e1⟩ := rS ho0_1
 obtain ⟨A2, c2, e2⟩ := rS ho0_2
 subst e1; subst e2
 unfold laws_markTx.f at h
 by_cases c : 0 ≤ a1 ∧ a1 + marksOf l0_1 l0_2 ≤ 4611686018427387904
 · rw [if_pos c] at h
   obtain rfl := sj h
   clear h
   have hm1 : (marksOf l0_1 l0_2 : Int) = upTo 2 (l0_1.map fun x => x.f2.length) l0_1.length + upTo 1 (l0_2.map fun x => x.f1.length) l0_2.length := by unfold marksOf; omega
   have hn1 : (l0_1.map fun x => x.f2.length).length ≤ 4611686018427387904 := by
    have := count_le 2 (l0_1.map fun x => x.f2.length) (by decide); rw [List.length_map] at this ⊢; omega
   have hn2 : (l0_2.map fun x => x.f1.length).length ≤ 4611686018427387904 := by
    have := count_le 1 (l0_2.map fun x => x.f1.length) (by decide); rw [List.length_map] at this ⊢; omega
   have HC := am c; have HM := am hm1; clear c hm1
   go_enter Try.func31, Try.ntmps31
   go_wp2_with (first | ((with_reducible refine gate_dst (N := 2) rfl ?_); refine box_event ?hg (N := 2) ?hd (cs := #[.int .i64 a0_0, .slice A1 l0_1.length c1, .slice A2 l0_2.length c2]) (t := 27) ?hr ?_; (case hd => rfl); (case hg => rfl); (case hr => first | (go_simp; done) | (go_simp; rfl)); intro gb hg w4 hbox hb; have HT := am (Turn.of_below (P := fun k_ => (P0_1_ k_ ∨ P0_2_ k_) ∧ k_ < w.heap.size) hB hb); have HN := am (show ¬ ((P0_1_ gb ∨ P0_2_ gb) ∧ gb < w.heap.size) from fun h_ => by rw [hg] at h_; exact Nat.lt_irrefl _ h_.2); have HX := am hbox; have hq1 : w4.cell? ⟨gb, 1, none⟩ = some (.slice A1 l0_1.length c1) := (blk_cell hbox 1).trans rfl; clear hb hg hbox) | (go_at_call 72; refine (markIn (l0_1.map fun x => x.f2.length) _ a1 w0 _ _ HT.out.below (HT.out.recs S1.out) HC.out.1 (by have := HC.out; have := HM.out; rw [List.length_map]; omega) hn1).mono ?_; rintro e w5 ⟨rfl, ht⟩; have HX5 := am (blk_kept HX.out ht.kept HN.out); have hq2 : w5.cell? ⟨gb, 2, none⟩ = some (.slice A2 l0_2.length c2) := (blk_cell HX5.out 2).trans rfl; have HT5 := am (HT.out.then_ ht); clear ht hq1) | (go_at_call 73; refine (markOut (l0_2.map fun x => x.f1.length) _ _ w0 _ _ HT5.out.below (HT5.out.recs S2.out) (by have := HC.out; omega) (by have := HC.out; have := HM.out; rw [List.length_map]; omega) hn2).mono ?_; rintro e w6 ⟨rfl, ht⟩; have HT6 := am (HT5.out.then_ ht); clear ht hq2))
   go_ret
   refine ⟨?_, HT6.out.below, HT6.out.kept.mono (fun _ hk => hk.1)⟩
   have := HM.out
   rw [this, ← Int.add_assoc]
   simp only [List.length_map]
   rfl
 · rw [if_neg c] at h; cases h
def laws_markByteS.l0 : Nat → List Int → Int → Int → Option (Int × List Int)
 | 0, _, _, _ => none
 | k + 1, x0, x1, x5 => if x5 < (x0.length : Int) then (if 0 ≤ x5 then (laws_markByteS.l0 k (x0.set (x5 : Int).toNat ((x1) % 256)) (wrap64 (x1 + 1)) (wrap64 (x5 + 1))) else (none)) else (some (x1, x0))
def laws_markByteS.f (k : Nat) (l0 : List Int) (a1 : Int) : Option (Int × List Int) := laws_markByteS.l0 k l0 a1 0
theorem laws_markByteS.mono_l : ∀ k, (∀ y0 y1 y2, LeO (laws_markByteS.l0 k y0 y1 y2) (laws_markByteS.l0 (k + 1) y0 y1 y2))
 | 0 => fun _ _ _ r h => by simp [laws_markByteS.l0] at h
 | k + 1 => by
  have ih0 := laws_markByteS.mono_l k
  · intro y0 y1 y2
    unfold laws_markByteS.l0
    repeat' with_reducible first | exact ih0 _ _ _ | exact LeO.refl _ | exact LeO.none _ | refine LeO.ite ?_ ?_ | refine LeO.bind ?_ (fun _ => ?_)
theorem laws_markByteS.mono : ∀ a0 a1 k, LeO (laws_markByteS.f k a0 a1) (laws_markByteS.f (k + 1) a0 a1) := by
 intro a0 a1 k
 have ih0 := laws_markByteS.mono_l k
 unfold laws_markByteS.f
 repeat' with_reducible first | exact ih0 _ _ _ | exact LeO.refl _ | exact LeO.none _ | refine LeO.ite ?_ ?_ | refine LeO.bind ?_ (fun _ => ?_)
theorem laws_markByteS.calls (k : Nat) (P0_ : Nat → Prop) (u9000_ : Value) (l0 : List Int) (a1 : Int) (r1 : Int) (r2 : List Int) (w0 w : World) (hB : Below w0.heap.size w0 w) (ho0 : Kd.R (Kd.int .u8) 5 w w0.heap.size P0_ u9000_ l0) (h : laws_markByteS.f k l0 a1 = some (r1, r2)) :
 Calls Try.prog 26 #[u9000_, .int .i64 a1] w fun e w' => e = .returned (.int .i64 r1) ∧ Kd.R (Kd.int .u8) 5 w' w0.heap.size (fun k_ => (P0_ k_ ∨ w.heap.size ≤ k_)) u9000_ r2 ∧ Below w0.heap.size w0 w' ∧ Kept w w' (fun k_ => P0_ k_) := by
 have HO0 := am (show Kd.R (Kd.int .u8) 5 w w0.heap.size (fun k_ => (P0_ k_ ∨ w.heap.size ≤ k_)) u9000_ l0 from Kd.R_mono ho0 (fun k_ hk => (.inl hk)))
 have HK := am (Kept.refl w (fun k_ => P0_ k_))
 have HW0 := am hB.size
 have HB := am hB; clear hB
 have H : (laws_markByteS.l0 k l0 a1 0) = some (r1, r2) := h
 clear h
 have H' := am H
 clear H
 go_enter Try.func26, Try.ntmps26
 go_wp2
 go_loopg [1, 5] k (fun kq v1 v5 w' => ∃ (x0_1 : List Int) (x1_1 : Int) (x5_1 : Int), v1 = .int .i64 x1_1 ∧ v5 = .int .i64 x5_1 ∧ Aside0 (laws_markByteS.l0 kq x0_1 x1_1 x5_1 = some (r1, r2)) ∧ Aside0 (kq ≤ k) ∧ Aside0 (Kd.R (Kd.int .u8) 5 w' w0.heap.size (fun k_ => (P0_ k_ ∨ w.heap.size ≤ k_)) u9000_ x0_1) ∧ Aside0 (Kept w w' (fun k_ => P0_ k_)) ∧ Aside0 (Below w0.heap.size w0 w'))
 case atStart => exact ⟨(l0), (a1), (0), pF, pF, H', ⟨Nat.le_refl _⟩, ⟨(pR HO0)⟩, ⟨by repeat (first | (with_reducible first | exact HK.out | apply Kept.alloc | apply Kept.drewN | apply Kept.drew) | exact HK.out)⟩, ⟨pB⟩⟩
 case round =>
  clear H'
  obtain ⟨x0_1, x1_1, x5_1, rfl, rfl, HA, HK1, HO_0, HK, HB⟩ := hrel
  cases gk with
  | zero => exact absurd HA.out (by simp [laws_markByteS.l0])
  | succ k1 =>
   have H := HA.out
   clear HA
   simp only [laws_markByteS.l0] at H
   by_cases c3 : x5_1 < (x0_1.length : Int)
   · rw [if_pos c3] at H
     have c3b0 : decide (x5_1 < (x0_1.length : Int)) = true := dt c3
     clear c3
     by_cases c4 : 0 ≤ x5_1
     · rw [if_pos c4] at H
       have c4b0 : decide (0 ≤ x5_1) = true := dt c4
       clear c4
       obtain ⟨y433, hy433⟩ : ∃ y_ : List Int, y_ = (x0_1.set (x5_1 : Int).toNat ((x1_1) % 256)) := ⟨_, rfl⟩
       replace H : (laws_markByteS.l0 k1 y433 (wrap64 (x1_1 + 1)) (wrap64 (x5_1 + 1))) = some (r1, r2) := by first | (rw [hy433]; with_reducible exact H) | (have H2_ := (Option.bind_some _ _).symm.trans H; rw [hy433]; with_reducible exact H2_) | (have H2_ := (Option.bind_some _ _).symm.trans H; with_reducible exact H2_) | with_reducible exact H | (rw [hy433]; exact H) | exact H
       have Ny433 := am hy433; clear hy433
       have H' := am H
       clear H
       obtain ⟨Ao6, co6, eo6⟩ := rS HO_0.out
       subst eo6
       have p5 : 0 ≤ (x5_1 : Int) := pD
       have q5 : (x5_1 : Int) < ((x0_1.length : Int) : Int) := pD
       obtain ⟨go5, co5, eo5, gb5, gl5, cl5, HG5⟩ := Kd.R_form HO_0.out (by omega)
       (first | cases eo5 | (injection eo5 with ea_ en_ ec_; (first | subst ea_ | (injection ea_ with ea_; subst ea_)); subst ec_; clear en_))
       have GB5 := am gb5; have GG5 := am HG5; clear gb5 gl5 HG5
       have HMgo5 := am (show (P0_ go5 ∨ w.heap.size ≤ go5) from (HO_0.out.1 _ rfl))
       obtain ⟨hx5_0, hf5_0⟩ := Kd.R_celln 0 HO_0.out (x5_1 : Int) p5 q5
       replace p5 := eq_true p5; replace q5 := eq_true q5
       have HP7 := Kd.R_putg HO_0.out (x5_1 : Int) ((x1_1) % 256)
       go_wp2_with (first | ((with_reducible refine gate_store (t := 5) (p := 16) rfl ?_); refine store_event (t := 5) (p := 16) (v := ?vo_w8) (w1 := (wr.setCell ⟨go5, (x5_1 : Int).toNat, none⟩ (.int .u8 ((x1_1) % 256)))) ?hg ?ho ?hn ?hr ?_; (case ho => rfl); (case hg => rfl); (case hn => rfl); (case hr => first | (go_simp; done) | (go_simp; rfl)); intro w8 hw; have hg : wr.grownBy w8 (some go5) := (by rw [hw]; exact HP7.2); have hp_ : Kd.R (Kd.int .u8) 5 w8 w0.heap.size (fun k_ => (P0_ k_ ∨ w.heap.size ≤ k_)) (.slice (some ⟨go5, 0, none⟩) x0_1.length co6) y433 := (by rw [hw, Ny433.out]; exact HP7.1); clear HP7; have n_ := t3 (hp_) ((by rw [hw]; exact below_set (HB.out) GB5.out : Below w0.heap.size w0 w8)) (Kept.of_grown (S := (fun k_ => P0_ k_)) hg (by repeat (first | (with_reducible first | exact HK.out | apply Kept.alloc | apply Kept.drewN | apply Kept.drew) | exact HK.out)) (fun k_ e_ => (HO_0.out.1 k_ e_))); clear HO_0 HB HK; obtain ⟨HO_0, HB, HK⟩ := n_; clear hg hw hp_))
       go_roundg k1
       case measure => have := HK1.out; omega
       case rel => exact ⟨(y433), (wrap64 (x1_1 + 1)), (wrap64 (x5_1 + 1)), pF, pF, H', ⟨by have := HK1.out; omega⟩, ⟨(pR HO_0)⟩, ⟨by repeat (first | (with_reducible first | exact HK.out | apply Kept.alloc | apply Kept.drewN | apply Kept.drew) | exact HK.out)⟩, ⟨pB⟩⟩
     · rw [if_neg c4] at H
       exact absurd H (by simp)
   · rw [if_neg c3] at H
     have c3b0 : decide (x5_1 < (x0_1.length : Int)) = false := decide_eq_false c3
     clear c3
     simp only [Option.some.injEq, Prod.mk.injEq] at H
     obtain ⟨rfl, rfl⟩ := H
     obtain ⟨Ao9, co9, eo9⟩ := rS HO_0.out
     subst eo9
     go_wp2
     go_ret
     exact ⟨pE, (pR HO_0), pB, by repeat (first | (with_reducible first | exact HK.out | apply Kept.alloc | apply Kept.drewN | apply Kept.drew) | exact HK.out)⟩
def laws_markBytesResult.f (k : Nat) (a0_0 : Int) (l0_1 : List Int) (a1 : Int) : Option (Int × List Int) := (laws_markByteS.f k l0_1 a1).bind fun bt435 => (some (bt435.1, bt435.2))
theorem laws_markBytesResult.mono : ∀ a0 a1 a2 k, LeO (laws_markBytesResult.f k a0 a1 a2) (laws_markBytesResult.f (k + 1) a0 a1 a2) := by
 intro a0 a1 a2 k
 unfold laws_markBytesResult.f
 repeat' with_reducible first | exact laws_markByteS.mono _ _ _ | exact LeO.refl _ | exact LeO.none _ | refine LeO.ite ?_ ?_ | refine LeO.bind ?_ (fun _ => ?_)
theorem laws_markBytesResult.calls (k : Nat) (a0_0 : Int) (P0_1_ : Nat → Prop) (u9000_ : Value) (l0_1 : List Int) (a1 : Int) (r1 : Int) (r2 : List Int) (w0 w : World) (hB : Below w0.heap.size w0 w) (ho0_1 : Kd.R (Kd.int .u8) 5 w w0.heap.size P0_1_ u9000_ l0_1) (h : laws_markBytesResult.f k a0_0 l0_1 a1 = some (r1, r2)) :
 Calls Try.prog 32 #[.agg #[.int .i64 a0_0, u9000_], .int .i64 a1] w fun e w' => e = .returned (.int .i64 r1) ∧ Kd.R (Kd.int .u8) 5 w' w0.heap.size (fun k_ => (P0_1_ k_ ∨ w.heap.size ≤ k_)) u9000_ r2 ∧ Below w0.heap.size w0 w' ∧ Kept w w' (fun k_ => P0_1_ k_) := by
 have hu37 := Try.underlying37
 have HO0_1 := am (show Kd.R (Kd.int .u8) 5 w w0.heap.size (fun k_ => (P0_1_ k_ ∨ w.heap.size ≤ k_)) u9000_ l0_1 from Kd.R_mono ho0_1 (fun k_ hk => (.inl hk)))
 have HK := am (Kept.refl w (fun k_ => P0_1_ k_))
 have HW0 := am hB.size
 have HB := am hB; clear hB
 have H : ((laws_markByteS.f k l0_1 a1).bind fun bt435 => (some (bt435.1, bt435.2))) = some (r1, r2) := h
 clear h
 obtain ⟨⟨t435, t436⟩, A30, H⟩ := bO H
 replace H : (some (t435, t436)) = some (r1, r2) := H
 have A3 := am A30; clear A30
 simp only [Option.some.injEq, Prod.mk.injEq] at H
 obtain ⟨rfl, rfl⟩ := H
 obtain ⟨Ao4, co4, eo4⟩ := rS HO0_1.out
 subst eo4
 go_enter Try.func32, Try.ntmps32
 go_wp2_with (first | ((with_reducible refine gate_dst (N := 2) rfl ?_); refine box_event ?hg (N := 2) ?hd (cs := #[.int .i64 a0_0, .slice Ao4 l0_1.length co4]) (t := 37) ?hr ?_; (case hd => rfl); (case hg => rfl); (case hr => first | (go_simp; done) | (go_simp; rfl)); intro gb434 hg w5 hbox hb; have n_ := t6 (Kd.R_below (pR HO0_1) hb) (Kept.below (S := (fun k_ => P0_1_ k_)) (by repeat (first | (with_reducible first | exact HK.out | apply Kept.alloc | apply Kept.drewN | apply Kept.drew) | exact HK.out)) hb) (bz_ pB hb) (hbox) ((by rw [hg]; exact (by first | exact HK.out.1 | exact (show Kept w _ (fun k_ => P0_1_ k_) from by repeat (first | (with_reducible first | exact HK.out | apply Kept.alloc | apply Kept.drewN | apply Kept.drew) | exact HK.out)).1) : w.heap.size ≤ gb434)) ((by rw [hg]; exact (bs_ pB) : w0.heap.size ≤ gb434)); clear HO0_1 HK HB; obtain ⟨HO0_1, HK, HB, BK434, GW434, GE434⟩ := n_; clear hb hbox hg; have hcz6_0 : w5.cell? ⟨gb434, 0, none⟩ = some (.int .i64 a0_0) := (blk_cell BK434.out 0).trans rfl; have hcz6_1 : w5.cell? ⟨gb434, 1, none⟩ = some (.slice Ao4 l0_1.length co4) := (blk_cell BK434.out 1).trans rfl; have hfz6_0 := blk_frozen BK434.out 0; have hfz6_1 := blk_frozen BK434.out 1) | ((with_reducible refine gC (f := 26) rfl ?_); refine goesL_ (some 8) rfl rfl Try.func26 (by kernel_rfl) rfl #[.slice Ao4 l0_1.length co4, .int .i64 a1] rfl pA ?_; (with_reducible refine (laws_markByteS.calls k (fun k_ => some k_ = (.slice Ao4 l0_1.length co4 : Value).ownBlock) (.slice Ao4 l0_1.length co4) l0_1 a1 t435 t436 w0 _ ?side1 ?side2 A3.out).mono ?_); (case side1 => repeat (first | (with_reducible first | exact HB.out | apply below_alloc | apply pw_below_drewN | apply below_drew1 | refine below_set ?_ GE434.out) | exact HB.out)); (case side2 => exact Kd.R_tight rfl HO0_1.out); rintro e w7 ⟨rfl, hy0, hb, hkp⟩; refine ⟨_, rfl, ?_⟩; have n_ := t4 (Kd.R_reok rfl hy0 (fun k_ e_ => HO0_1.out.1 k_ e_)) (blk_kept (pK BK434) hkp (fun hs_ => (fun e_ => (Kd.R_ne HO0_1.out BK434.out (by decide)) e_) hs_)) (Kept.then_ (S := (fun k_ => P0_1_ k_)) (by repeat (first | (with_reducible first | exact HK.out | apply Kept.alloc | apply Kept.drewN | apply Kept.drew | refine Kept.setCell ?_ (.inr GW434.out) _) | exact HK.out)) hkp (fun k_ hs_ => (fun e_ => (HO0_1.out.1 k_ e_.symm)) hs_)) (hb); clear HO0_1 BK434 HK HB; obtain ⟨HO0_1, BK434, HK, HB⟩ := n_; (try clear hb); (try clear hkp); (try clear hy0)))
 go_ret
 exact ⟨pE, (pR HO0_1), pB, by repeat (first | (with_reducible first | exact HK.out | apply Kept.alloc | apply Kept.drewN | apply Kept.drew | refine Kept.setCell ?_ (.inr GW434.out) _) | exact HK.out)⟩
end Go.Proofs.Ythjlbpgiaehjnaa.QFnExactPackTx
