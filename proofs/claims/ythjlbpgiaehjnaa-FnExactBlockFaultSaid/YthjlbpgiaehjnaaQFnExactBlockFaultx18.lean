-- written by this session's program (wip/tools/myprint.py)
import Derived.Test.YthjlbpgiaehjnaaQFnExactBlockFaultx0
-- squeezed
namespace Go.Proofs.Ythjlbpgiaehjnaa.QFnExactBlockFault
open Go.RowKit Go.Proofs.YthjlbpgiaehjnaaW.PrintWords Go.Proofs.YthjlbpgiaehjnaaW.PrintLast Go.Proofs.YthjlbpgiaehjnaaW.PrintMore
attribute [local go_sem] max2_int min2_int max_two min_two max_three min_three max_four min_four   -- for this text's walks alone
set_option linter.unusedVariables false
set_option linter.unusedSimpArgs false
set_option maxHeartbeats 8000000
set_option maxRecDepth 100000
def laws_eqInt64S.l0 : Nat → List Int → List Int → Int → Option (Bool)
 | 0, _, _, _ => none
 | k + 1, x0, x1, x5 => if x5 < (x0.length : Int) then (if 0 ≤ x5 then (if x5 < (x1.length : Int) then (if (rd x0 x5) = (rd x1 x5) then (laws_eqInt64S.l0 k x0 x1 (wrap64 (x5 + 1))) else (some false)) else (none)) else (none)) else (some true)
def laws_eqInt64S.f (k : Nat) (l0 : List Int) (l1 : List Int) : Option (Bool) := if (l0.length : Int) = (l1.length : Int) then (laws_eqInt64S.l0 k l0 l1 0) else (some false)
theorem laws_eqInt64S.mono_l : ∀ k, (∀ y0 y1 y2, LeO (laws_eqInt64S.l0 k y0 y1 y2) (laws_eqInt64S.l0 (k + 1) y0 y1 y2))
 | 0 => fun _ _ _ r h => by simp [laws_eqInt64S.l0] at h
 | k + 1 => by
  have ih0 := laws_eqInt64S.mono_l k
  · intro y0 y1 y2
    unfold laws_eqInt64S.l0
    repeat' with_reducible first | exact ih0 _ _ _ | exact LeO.refl _ | exact LeO.none _ | refine LeO.ite ?_ ?_ | refine LeO.bind ?_ (fun _ => ?_)
theorem laws_eqInt64S.mono : ∀ a0 a1 k, LeO (laws_eqInt64S.f k a0 a1) (laws_eqInt64S.f (k + 1) a0 a1) := by
 intro a0 a1 k
 have ih0 := laws_eqInt64S.mono_l k
 unfold laws_eqInt64S.f
 repeat' with_reducible first | exact ih0 _ _ _ | exact LeO.refl _ | exact LeO.none _ | refine LeO.ite ?_ ?_ | refine LeO.bind ?_ (fun _ => ?_)
theorem laws_eqInt64S.calls (k : Nat) (A0 : Option Addr) (c0 : Nat) (l0 : List Int) (A1 : Option Addr) (c1 : Nat) (l1 : List Int) (r : Bool) (w : World) (hr0 : Kd.C (Kd.int .i64) w A0 l0.length l0) (hc0 : l0.length ≤ c0) (hr1 : Kd.C (Kd.int .i64) w A1 l1.length l1) (hc1 : l1.length ≤ c1) (h : laws_eqInt64S.f k l0 l1 = some r) :
 Calls Try.prog 145 #[.slice A0 l0.length c0, .slice A1 l1.length c1] w fun e w' => e = .returned (.bool r) ∧ Drawn0 w w' := by
 have HR0 := Aside0.mk hr0; have HC0 := Aside0.mk hc0; clear hr0 hc0; have HR1 := Aside0.mk hr1; have HC1 := Aside0.mk hc1; clear hr1 hc1
 have H : (if (l0.length : Int) = (l1.length : Int) then (laws_eqInt64S.l0 k l0 l1 0) else (some false)) = some r := h
 clear h
 by_cases c3 : (l0.length : Int) = (l1.length : Int)
 · rw [if_pos c3] at H
   have c3b0 : ((l0.length : Int) == (l1.length : Int)) = true := beq_iff_eq.mpr c3
   have c3b1 : ((l0.length : Int) != (l1.length : Int)) = false := bne_eq_false_iff_eq.mpr c3
   have c3b2 : (l0.length == l1.length) = true := by first | simpa using c3 | (simp at c3 ⊢; omega)
   clear c3
   have H' := Aside0.mk H
   clear H
   go_enter Try.func145, Try.ntmps145
   go_wp2
   repeat (go_quiet (fail); try go_wp2)
   go_loopg [5] k (fun kq v5 w' => ∃ (x5_1 : Int), v5 = .int .i64 x5_1 ∧ Aside0 (laws_eqInt64S.l0 kq l0 l1 x5_1 = some r) ∧ Aside0 (kq ≤ k) ∧ Drawn0 w w')
   case atStart => exact ⟨(0), pF, H', ⟨Nat.le_refl _⟩, pW⟩
   case round =>
    clear H'
    (try clear c1); (try clear p2); (try clear c3); (try clear c3b0); (try clear c3b1); (try clear c3b2)
    obtain ⟨x5_1, rfl, HA, HK1, ⟨m1, rfl⟩⟩ := hrel
    cases gk with
    | zero => exact absurd HA.out (by simp [laws_eqInt64S.l0])
    | succ k1 =>
     have H := HA.out
     clear HA
     simp only [laws_eqInt64S.l0] at H
     by_cases c4 : x5_1 < (l0.length : Int)
     · rw [if_pos c4] at H
       have c4b0 : decide (x5_1 < (l0.length : Int)) = true := decide_eq_true c4
       clear c4
       by_cases c5 : 0 ≤ x5_1
       · rw [if_pos c5] at H
         have c5b0 : decide (0 ≤ x5_1) = true := decide_eq_true c5
         clear c5
         by_cases c6 : x5_1 < (l1.length : Int)
         · rw [if_pos c6] at H
           have c6b0 : decide (x5_1 < (l1.length : Int)) = true := decide_eq_true c6
           clear c6
           by_cases c7 : (rd l0 x5_1) = (rd l1 x5_1)
           · rw [if_pos c7] at H
             have c7b0 : ((rd l0 x5_1) == (rd l1 x5_1)) = true := beq_iff_eq.mpr c7
             have c7b1 : ((rd l0 x5_1) != (rd l1 x5_1)) = false := bne_eq_false_iff_eq.mpr c7
             clear c7
             have H' := Aside0.mk H
             clear H
             have p577 : 0 ≤ (x5_1 : Int) := pD
             have q577 : x5_1 < (l0.length : Int) := pD
             obtain ⟨ad577, e577, hx577_0⟩ := Kd.at_int HR0.out x5_1 p577 q577
             cases e577; replace p577 := eq_true p577; replace q577 := eq_true q577
             have p578 : 0 ≤ (x5_1 : Int) := pD
             have q578 : x5_1 < (l1.length : Int) := pD
             obtain ⟨ad578, e578, hx578_0⟩ := Kd.at_int HR1.out x5_1 p578 q578
             cases e578; replace p578 := eq_true p578; replace q578 := eq_true q578
             go_wp2
             repeat (go_quiet (fail); try go_wp2)
             go_roundg k1
             case measure => have := HK1.out; omega
             case rel => exact ⟨(wrap64 (x5_1 + 1)), pF, H', ⟨by have := HK1.out; omega⟩, pW⟩
           · rw [if_neg c7] at H
             have c7b0 : ((rd l0 x5_1) == (rd l1 x5_1)) = false := beq_eq_false_iff_ne.mpr c7
             have c7b1 : ((rd l0 x5_1) != (rd l1 x5_1)) = true := bne_iff_ne.mpr c7
             obtain rfl := Option.some.inj H
             have p577 : 0 ≤ (x5_1 : Int) := pD
             have q577 : x5_1 < (l0.length : Int) := pD
             obtain ⟨ad577, e577, hx577_0⟩ := Kd.at_int HR0.out x5_1 p577 q577
             cases e577; replace p577 := eq_true p577; replace q577 := eq_true q577
             have p578 : 0 ≤ (x5_1 : Int) := pD
             have q578 : x5_1 < (l1.length : Int) := pD
             obtain ⟨ad578, e578, hx578_0⟩ := Kd.at_int HR1.out x5_1 p578 q578
             cases e578; replace p578 := eq_true p578; replace q578 := eq_true q578
             go_wp2
             repeat (go_quiet (fail); try go_wp2)
             go_ret
             exact ⟨by first | rfl | (simp; done) | (simp [*]; done), pW⟩
         · rw [if_neg c6] at H
           exact absurd H (by simp)
       · rw [if_neg c5] at H
         exact absurd H (by simp)
     · rw [if_neg c4] at H
       have c4b0 : decide (x5_1 < (l0.length : Int)) = false := decide_eq_false c4
       clear c4
       obtain rfl := Option.some.inj H
       go_wp2
       repeat (go_quiet (fail); try go_wp2)
       go_ret
       exact ⟨by first | rfl | (simp; done) | (simp [*]; done), pW⟩
 · rw [if_neg c3] at H
   have c3b0 : ((l0.length : Int) == (l1.length : Int)) = false := beq_eq_false_iff_ne.mpr c3
   have c3b1 : ((l0.length : Int) != (l1.length : Int)) = true := bne_iff_ne.mpr c3
   have c3b2 : (l0.length == l1.length) = false := by first | simpa using c3 | (simp at c3 ⊢; omega)
   obtain rfl := Option.some.inj H
   go_enter Try.func145, Try.ntmps145
   go_wp2
   repeat (go_quiet (fail); try go_wp2)
   go_ret
   exact ⟨by first | rfl | (simp; done) | (simp [*]; done), pW⟩
def laws_eqIn.f (k : Nat) (a0_0 : Int) (a0_1 : Int) (l0_2 : List Int) (a1_0 : Int) (a1_1 : Int) (l1_2 : List Int) : Option (Bool) := if a0_0 = a1_0 then (if a0_1 = a1_1 then ((laws_eqInt64S.f k l0_2 l1_2).bind fun t581 => (if t581 = true then (some true) else (some false))) else (some false)) else (some false)
theorem laws_eqIn.mono : ∀ a0 a1 a2 a3 a4 a5 k, LeO (laws_eqIn.f k a0 a1 a2 a3 a4 a5) (laws_eqIn.f (k + 1) a0 a1 a2 a3 a4 a5) := by
 intro a0 a1 a2 a3 a4 a5 k
 unfold laws_eqIn.f
 repeat' with_reducible first | exact laws_eqInt64S.mono _ _ _ | exact LeO.refl _ | exact LeO.none _ | refine LeO.ite ?_ ?_ | refine LeO.bind ?_ (fun _ => ?_)
theorem laws_eqIn.calls (k : Nat) (a0_0 : Int) (a0_1 : Int) (A0_2 : Option Addr) (c0_2 : Nat) (l0_2 : List Int) (a1_0 : Int) (a1_1 : Int) (A1_2 : Option Addr) (c1_2 : Nat) (l1_2 : List Int) (r : Bool) (w : World) (hr0_2 : Kd.C (Kd.int .i64) w A0_2 l0_2.length l0_2) (hc0_2 : l0_2.length ≤ c0_2) (hr1_2 : Kd.C (Kd.int .i64) w A1_2 l1_2.length l1_2) (hc1_2 : l1_2.length ≤ c1_2) (h : laws_eqIn.f k a0_0 a0_1 l0_2 a1_0 a1_1 l1_2 = some r) :
 Calls Try.prog 116 #[.agg #[.int .i64 a0_0, .int .i64 a0_1, .slice A0_2 l0_2.length c0_2], .agg #[.int .i64 a1_0, .int .i64 a1_1, .slice A1_2 l1_2.length c1_2]] w fun e w' => e = .returned (.bool r) ∧ Below w.heap.size w w' := by
 have hu34 := Try.underlying34
 have HR0_2 := Aside0.mk hr0_2; have HC0_2 := Aside0.mk hc0_2; clear hr0_2 hc0_2; have HR1_2 := Aside0.mk hr1_2; have HC1_2 := Aside0.mk hc1_2; clear hr1_2 hc1_2
 have HB := Aside0.mk (Below.refl w.heap.size w)
 have H : (if a0_0 = a1_0 then (if a0_1 = a1_1 then ((laws_eqInt64S.f k l0_2 l1_2).bind fun t581 => (if t581 = true then (some true) else (some false))) else (some false)) else (some false)) = some r := h
 clear h
 by_cases c3 : a0_0 = a1_0
 · rw [if_pos c3] at H
   have c3b0 : (a0_0 == a1_0) = true := beq_iff_eq.mpr c3
   have c3b1 : (a0_0 != a1_0) = false := bne_eq_false_iff_eq.mpr c3
   clear c3
   by_cases c4 : a0_1 = a1_1
   · rw [if_pos c4] at H
     have c4b0 : (a0_1 == a1_1) = true := beq_iff_eq.mpr c4
     have c4b1 : (a0_1 != a1_1) = false := bne_eq_false_iff_eq.mpr c4
     clear c4
     obtain ⟨t581, A50, H⟩ := bO H
     replace H : (if t581 = true then (some true) else (some false)) = some r := H
     have A5 := Aside0.mk A50; clear A50
     by_cases c6 : t581 = true
     · subst c6
       have H1 : (some true) = some r := by rw [if_pos rfl] at H; exact H
       clear H; have H := H1; clear H1
       obtain rfl := Option.some.inj H
       go_enter Try.func116, Try.ntmps116
       go_wp2_with (first | ((with_reducible refine gate_dst (N := 2) rfl ?_); refine box_event ?hg (N := 2) ?hd (cs := #[.int .i64 a0_0, .int .i64 a0_1, .slice A0_2 l0_2.length c0_2]) (t := 34) ?hr ?_; (case hd => rfl); (case hg => rfl); (case hr => first | (go_simp; done) | (go_simp; rfl)); intro gb579 hg w7 hbox hb; have n_ := t4 (below_step pB hb) (hbox) ((by rw [hg]; exact (below_size pB) : w.heap.size ≤ gb579)) ((by rw [hg]; exact (below_size pB) : w.heap.size ≤ gb579)); clear HB; obtain ⟨HB, BK579, GW579, GE579⟩ := n_; clear hb hbox hg) | ((with_reducible refine gate_dst (N := 3) rfl ?_); refine box_event ?hg (N := 3) ?hd (cs := #[.int .i64 a1_0, .int .i64 a1_1, .slice A1_2 l1_2.length c1_2]) (t := 34) ?hr ?_; (case hd => rfl); (case hg => rfl); (case hr => first | (go_simp; done) | (go_simp; rfl)); intro gb580 hg w8 hbox hb; have n_ := t7 (blk_below (g := gb579) (o := .cells #[.int .i64 a0_0, .int .i64 a0_1, .slice A0_2 l0_2.length c0_2] 34 (0, 0)) (pK BK579) hb) (below_step pB hb) (hbox) ((by rw [hg]; exact (below_size pB) : w.heap.size ≤ gb580)) ((by rw [hg]; exact (below_size pB) : w.heap.size ≤ gb580)) ((by rw [hg]; exact Nat.ne_of_lt (blk_lt (g := gb579) (o := .cells #[.int .i64 a0_0, .int .i64 a0_1, .slice A0_2 l0_2.length c0_2] 34 (0, 0)) (pK BK579)) : gb579 ≠ gb580)) ((by rw [hg]; exact Nat.ne_of_gt (blk_lt (g := gb579) (o := .cells #[.int .i64 a0_0, .int .i64 a0_1, .slice A0_2 l0_2.length c0_2] 34 (0, 0)) (pK BK579)) : gb580 ≠ gb579)); clear BK579 HB; obtain ⟨BK579, HB, BK580, GW580, GE580, NB579_580, NB580_579⟩ := n_; clear hb hbox hg; have hnb9 := NB579_580.out; have hnc9 := NB580_579.out; have hcz10_0 : w8.cell? ⟨gb579, 0, none⟩ = some (.int .i64 a0_0) := (blk_cell BK579.out 0).trans rfl; have hcz10_1 : w8.cell? ⟨gb579, 1, none⟩ = some (.int .i64 a0_1) := (blk_cell BK579.out 1).trans rfl; have hcz10_2 : w8.cell? ⟨gb579, 2, none⟩ = some (.slice A0_2 l0_2.length c0_2) := (blk_cell BK579.out 2).trans rfl; have hfz10_0 := blk_frozen BK579.out 0; have hfz10_1 := blk_frozen BK579.out 1; have hfz10_2 := blk_frozen BK579.out 2; have hcz11_0 : w8.cell? ⟨gb580, 0, none⟩ = some (.int .i64 a1_0) := (blk_cell BK580.out 0).trans rfl; have hcz11_1 : w8.cell? ⟨gb580, 1, none⟩ = some (.int .i64 a1_1) := (blk_cell BK580.out 1).trans rfl; have hcz11_2 : w8.cell? ⟨gb580, 2, none⟩ = some (.slice A1_2 l1_2.length c1_2) := (blk_cell BK580.out 2).trans rfl; have hfz11_0 := blk_frozen BK580.out 0; have hfz11_1 := blk_frozen BK580.out 1; have hfz11_2 := blk_frozen BK580.out 2) | ((with_reducible refine gate_callee (f := 145) rfl ?_); refine goesL_ (some 19) rfl rfl Try.func145 (by kernel_rfl) rfl #[.slice A0_2 l0_2.length c0_2, .slice A1_2 l1_2.length c1_2] rfl pA ?_; (with_reducible refine (laws_eqInt64S.calls k _ _ l0_2 _ _ l1_2 true _ ?side1 ?side2 ?side3 ?side4 A5.out).mono ?_); (case side1 => exact pC (Kd.C_below HR0_2.out HB.out)); (case side2 => exact HC0_2.out); (case side3 => exact pC (Kd.C_below HR1_2.out HB.out)); (case side4 => exact HC1_2.out); rintro e w' ⟨rfl, ⟨nd, rfl⟩⟩; refine ⟨_, rfl, ?_⟩))
       go_ret
       exact ⟨pE, pB⟩
     · replace c6 := Bool.eq_false_iff.mpr c6
       subst c6
       have H1 : (some false) = some r := by rw [if_neg (show ¬ (false = true) by decide)] at H; exact H
       clear H; have H := H1; clear H1
       obtain rfl := Option.some.inj H
       go_enter Try.func116, Try.ntmps116
       go_wp2_with (first | ((with_reducible refine gate_dst (N := 2) rfl ?_); refine box_event ?hg (N := 2) ?hd (cs := #[.int .i64 a0_0, .int .i64 a0_1, .slice A0_2 l0_2.length c0_2]) (t := 34) ?hr ?_; (case hd => rfl); (case hg => rfl); (case hr => first | (go_simp; done) | (go_simp; rfl)); intro gb579 hg w12 hbox hb; have n_ := t4 (below_step pB hb) (hbox) ((by rw [hg]; exact (below_size pB) : w.heap.size ≤ gb579)) ((by rw [hg]; exact (below_size pB) : w.heap.size ≤ gb579)); clear HB; obtain ⟨HB, BK579, GW579, GE579⟩ := n_; clear hb hbox hg) | ((with_reducible refine gate_dst (N := 3) rfl ?_); refine box_event ?hg (N := 3) ?hd (cs := #[.int .i64 a1_0, .int .i64 a1_1, .slice A1_2 l1_2.length c1_2]) (t := 34) ?hr ?_; (case hd => rfl); (case hg => rfl); (case hr => first | (go_simp; done) | (go_simp; rfl)); intro gb580 hg w13 hbox hb; have n_ := t7 (blk_below (g := gb579) (o := .cells #[.int .i64 a0_0, .int .i64 a0_1, .slice A0_2 l0_2.length c0_2] 34 (0, 0)) (pK BK579) hb) (below_step pB hb) (hbox) ((by rw [hg]; exact (below_size pB) : w.heap.size ≤ gb580)) ((by rw [hg]; exact (below_size pB) : w.heap.size ≤ gb580)) ((by rw [hg]; exact Nat.ne_of_lt (blk_lt (g := gb579) (o := .cells #[.int .i64 a0_0, .int .i64 a0_1, .slice A0_2 l0_2.length c0_2] 34 (0, 0)) (pK BK579)) : gb579 ≠ gb580)) ((by rw [hg]; exact Nat.ne_of_gt (blk_lt (g := gb579) (o := .cells #[.int .i64 a0_0, .int .i64 a0_1, .slice A0_2 l0_2.length c0_2] 34 (0, 0)) (pK BK579)) : gb580 ≠ gb579)); clear BK579 HB; obtain ⟨BK579, HB, BK580, GW580, GE580, NB579_580, NB580_579⟩ := n_; clear hb hbox hg; have hnb14 := NB579_580.out; have hnc14 := NB580_579.out; have hcz15_0 : w13.cell? ⟨gb579, 0, none⟩ = some (.int .i64 a0_0) := (blk_cell BK579.out 0).trans rfl; have hcz15_1 : w13.cell? ⟨gb579, 1, none⟩ = some (.int .i64 a0_1) := (blk_cell BK579.out 1).trans rfl; have hcz15_2 : w13.cell? ⟨gb579, 2, none⟩ = some (.slice A0_2 l0_2.length c0_2) := (blk_cell BK579.out 2).trans rfl; have hfz15_0 := blk_frozen BK579.out 0; have hfz15_1 := blk_frozen BK579.out 1; have hfz15_2 := blk_frozen BK579.out 2; have hcz16_0 : w13.cell? ⟨gb580, 0, none⟩ = some (.int .i64 a1_0) := (blk_cell BK580.out 0).trans rfl; have hcz16_1 : w13.cell? ⟨gb580, 1, none⟩ = some (.int .i64 a1_1) := (blk_cell BK580.out 1).trans rfl; have hcz16_2 : w13.cell? ⟨gb580, 2, none⟩ = some (.slice A1_2 l1_2.length c1_2) := (blk_cell BK580.out 2).trans rfl; have hfz16_0 := blk_frozen BK580.out 0; have hfz16_1 := blk_frozen BK580.out 1; have hfz16_2 := blk_frozen BK580.out 2) | ((with_reducible refine gate_callee (f := 145) rfl ?_); refine goesL_ (some 19) rfl rfl Try.func145 (by kernel_rfl) rfl #[.slice A0_2 l0_2.length c0_2, .slice A1_2 l1_2.length c1_2] rfl pA ?_; (with_reducible refine (laws_eqInt64S.calls k _ _ l0_2 _ _ l1_2 false _ ?side1 ?side2 ?side3 ?side4 A5.out).mono ?_); (case side1 => exact pC (Kd.C_below HR0_2.out HB.out)); (case side2 => exact HC0_2.out); (case side3 => exact pC (Kd.C_below HR1_2.out HB.out)); (case side4 => exact HC1_2.out); rintro e w' ⟨rfl, ⟨nd, rfl⟩⟩; refine ⟨_, rfl, ?_⟩))
       go_ret
       exact ⟨pE, pB⟩
   · rw [if_neg c4] at H
     have c4b0 : (a0_1 == a1_1) = false := beq_eq_false_iff_ne.mpr c4
     have c4b1 : (a0_1 != a1_1) = true := bne_iff_ne.mpr c4
     obtain rfl := Option.some.inj H
     go_enter Try.func116, Try.ntmps116
     go_wp2_with (first | ((with_reducible refine gate_dst (N := 2) rfl ?_); refine box_event ?hg (N := 2) ?hd (cs := #[.int .i64 a0_0, .int .i64 a0_1, .slice A0_2 l0_2.length c0_2]) (t := 34) ?hr ?_; (case hd => rfl); (case hg => rfl); (case hr => first | (go_simp; done) | (go_simp; rfl)); intro gb579 hg w17 hbox hb; have n_ := t4 (below_step pB hb) (hbox) ((by rw [hg]; exact (below_size pB) : w.heap.size ≤ gb579)) ((by rw [hg]; exact (below_size pB) : w.heap.size ≤ gb579)); clear HB; obtain ⟨HB, BK579, GW579, GE579⟩ := n_; clear hb hbox hg) | ((with_reducible refine gate_dst (N := 3) rfl ?_); refine box_event ?hg (N := 3) ?hd (cs := #[.int .i64 a1_0, .int .i64 a1_1, .slice A1_2 l1_2.length c1_2]) (t := 34) ?hr ?_; (case hd => rfl); (case hg => rfl); (case hr => first | (go_simp; done) | (go_simp; rfl)); intro gb580 hg w18 hbox hb; have n_ := t7 (blk_below (g := gb579) (o := .cells #[.int .i64 a0_0, .int .i64 a0_1, .slice A0_2 l0_2.length c0_2] 34 (0, 0)) (pK BK579) hb) (below_step pB hb) (hbox) ((by rw [hg]; exact (below_size pB) : w.heap.size ≤ gb580)) ((by rw [hg]; exact (below_size pB) : w.heap.size ≤ gb580)) ((by rw [hg]; exact Nat.ne_of_lt (blk_lt (g := gb579) (o := .cells #[.int .i64 a0_0, .int .i64 a0_1, .slice A0_2 l0_2.length c0_2] 34 (0, 0)) (pK BK579)) : gb579 ≠ gb580)) ((by rw [hg]; exact Nat.ne_of_gt (blk_lt (g := gb579) (o := .cells #[.int .i64 a0_0, .int .i64 a0_1, .slice A0_2 l0_2.length c0_2] 34 (0, 0)) (pK BK579)) : gb580 ≠ gb579)); clear BK579 HB; obtain ⟨BK579, HB, BK580, GW580, GE580, NB579_580, NB580_579⟩ := n_; clear hb hbox hg; have hnb19 := NB579_580.out; have hnc19 := NB580_579.out; have hcz20_0 : w18.cell? ⟨gb579, 0, none⟩ = some (.int .i64 a0_0) := (blk_cell BK579.out 0).trans rfl; have hcz20_1 : w18.cell? ⟨gb579, 1, none⟩ = some (.int .i64 a0_1) := (blk_cell BK579.out 1).trans rfl; have hcz20_2 : w18.cell? ⟨gb579, 2, none⟩ = some (.slice A0_2 l0_2.length c0_2) := (blk_cell BK579.out 2).trans rfl; have hfz20_0 := blk_frozen BK579.out 0; have hfz20_1 := blk_frozen BK579.out 1; have hfz20_2 := blk_frozen BK579.out 2; have hcz21_0 : w18.cell? ⟨gb580, 0, none⟩ = some (.int .i64 a1_0) := (blk_cell BK580.out 0).trans rfl; have hcz21_1 : w18.cell? ⟨gb580, 1, none⟩ = some (.int .i64 a1_1) := (blk_cell BK580.out 1).trans rfl; have hcz21_2 : w18.cell? ⟨gb580, 2, none⟩ = some (.slice A1_2 l1_2.length c1_2) := (blk_cell BK580.out 2).trans rfl; have hfz21_0 := blk_frozen BK580.out 0; have hfz21_1 := blk_frozen BK580.out 1; have hfz21_2 := blk_frozen BK580.out 2))
     go_ret
     exact ⟨pE, pB⟩
 · rw [if_neg c3] at H
   have c3b0 : (a0_0 == a1_0) = false := beq_eq_false_iff_ne.mpr c3
   have c3b1 : (a0_0 != a1_0) = true := bne_iff_ne.mpr c3
   obtain rfl := Option.some.inj H
   go_enter Try.func116, Try.ntmps116
   go_wp2_with (first | ((with_reducible refine gate_dst (N := 2) rfl ?_); refine box_event ?hg (N := 2) ?hd (cs := #[.int .i64 a0_0, .int .i64 a0_1, .slice A0_2 l0_2.length c0_2]) (t := 34) ?hr ?_; (case hd => rfl); (case hg => rfl); (case hr => first | (go_simp; done) | (go_simp; rfl)); intro gb579 hg w22 hbox hb; have n_ := t4 (below_step pB hb) (hbox) ((by rw [hg]; exact (below_size pB) : w.heap.size ≤ gb579)) ((by rw [hg]; exact (below_size pB) : w.heap.size ≤ gb579)); clear HB; obtain ⟨HB, BK579, GW579, GE579⟩ := n_; clear hb hbox hg) | ((with_reducible refine gate_dst (N := 3) rfl ?_); refine box_event ?hg (N := 3) ?hd (cs := #[.int .i64 a1_0, .int .i64 a1_1, .slice A1_2 l1_2.length c1_2]) (t := 34) ?hr ?_; (case hd => rfl); (case hg => rfl); (case hr => first | (go_simp; done) | (go_simp; rfl)); intro gb580 hg w23 hbox hb; have n_ := t7 (blk_below (g := gb579) (o := .cells #[.int .i64 a0_0, .int .i64 a0_1, .slice A0_2 l0_2.length c0_2] 34 (0, 0)) (pK BK579) hb) (below_step pB hb) (hbox) ((by rw [hg]; exact (below_size pB) : w.heap.size ≤ gb580)) ((by rw [hg]; exact (below_size pB) : w.heap.size ≤ gb580)) ((by rw [hg]; exact Nat.ne_of_lt (blk_lt (g := gb579) (o := .cells #[.int .i64 a0_0, .int .i64 a0_1, .slice A0_2 l0_2.length c0_2] 34 (0, 0)) (pK BK579)) : gb579 ≠ gb580)) ((by rw [hg]; exact Nat.ne_of_gt (blk_lt (g := gb579) (o := .cells #[.int .i64 a0_0, .int .i64 a0_1, .slice A0_2 l0_2.length c0_2] 34 (0, 0)) (pK BK579)) : gb580 ≠ gb579)); clear BK579 HB; obtain ⟨BK579, HB, BK580, GW580, GE580, NB579_580, NB580_579⟩ := n_; clear hb hbox hg; have hnb24 := NB579_580.out; have hnc24 := NB580_579.out; have hcz25_0 : w23.cell? ⟨gb579, 0, none⟩ = some (.int .i64 a0_0) := (blk_cell BK579.out 0).trans rfl; have hcz25_1 : w23.cell? ⟨gb579, 1, none⟩ = some (.int .i64 a0_1) := (blk_cell BK579.out 1).trans rfl; have hcz25_2 : w23.cell? ⟨gb579, 2, none⟩ = some (.slice A0_2 l0_2.length c0_2) := (blk_cell BK579.out 2).trans rfl; have hfz25_0 := blk_frozen BK579.out 0; have hfz25_1 := blk_frozen BK579.out 1; have hfz25_2 := blk_frozen BK579.out 2; have hcz26_0 : w23.cell? ⟨gb580, 0, none⟩ = some (.int .i64 a1_0) := (blk_cell BK580.out 0).trans rfl; have hcz26_1 : w23.cell? ⟨gb580, 1, none⟩ = some (.int .i64 a1_1) := (blk_cell BK580.out 1).trans rfl; have hcz26_2 : w23.cell? ⟨gb580, 2, none⟩ = some (.slice A1_2 l1_2.length c1_2) := (blk_cell BK580.out 2).trans rfl; have hfz26_0 := blk_frozen BK580.out 0; have hfz26_1 := blk_frozen BK580.out 1; have hfz26_2 := blk_frozen BK580.out 2))
   go_ret
   exact ⟨pE, pB⟩
def laws_eqInS.l0 : Nat → List (S34) → List (S34) → Int → Option (Bool)
 | 0, _, _, _ => none
 | k + 1, x0, x1, x5 => if x5 < (x0.length : Int) then (if 0 ≤ x5 then (if x5 < (x1.length : Int) then ((laws_eqIn.f k ((rd_T34 x0 x5).f0) ((rd_T34 x0 x5).f1) ((rd_T34 x0 x5).f2) ((rd_T34 x1 x5).f0) ((rd_T34 x1 x5).f1) ((rd_T34 x1 x5).f2)).bind fun t584 => (if t584 = true then (laws_eqInS.l0 k x0 x1 (wrap64 (x5 + 1))) else (some false))) else (none)) else (none)) else (some true)
def laws_eqInS.f (k : Nat) (l0 : List (S34)) (l1 : List (S34)) : Option (Bool) := if (l0.length : Int) = (l1.length : Int) then (laws_eqInS.l0 k l0 l1 0) else (some false)
theorem laws_eqInS.mono_l : ∀ k, (∀ y0 y1 y2, LeO (laws_eqInS.l0 k y0 y1 y2) (laws_eqInS.l0 (k + 1) y0 y1 y2))
 | 0 => fun _ _ _ r h => by simp [laws_eqInS.l0] at h
 | k + 1 => by
  have ih0 := laws_eqInS.mono_l k
  · intro y0 y1 y2
    unfold laws_eqInS.l0
    repeat' with_reducible first | exact ih0 _ _ _ | exact laws_eqIn.mono _ _ _ _ _ _ _ | exact LeO.refl _ | exact LeO.none _ | refine LeO.ite ?_ ?_ | refine LeO.bind ?_ (fun _ => ?_)
theorem laws_eqInS.mono : ∀ a0 a1 k, LeO (laws_eqInS.f k a0 a1) (laws_eqInS.f (k + 1) a0 a1) := by
 intro a0 a1 k
 have ih0 := laws_eqInS.mono_l k
 unfold laws_eqInS.f
 repeat' with_reducible first | exact ih0 _ _ _ | exact laws_eqIn.mono _ _ _ _ _ _ _ | exact LeO.refl _ | exact LeO.none _ | refine LeO.ite ?_ ?_ | refine LeO.bind ?_ (fun _ => ?_)
def laws_eqInS.T6 : Bool × List (List Nat × List Nat) := (true, [([], []), ([], []), ([0, 1], [0, 1]), ([2], [2]), ([], []), ([], []), ([4, 5], [4, 5]), ([6], [6]), ([3, 7], [3, 7]), ([8], [8])])
def laws_eqInS.B6 : List Nat := [0, 0, 3, 7, 0, 0, 48, 112, 255, 511]
theorem laws_eqInS.tab6 : rtab .any (opsOf Try.f66 6) = laws_eqInS.T6 := by kernel_rfl
theorem laws_eqInS.bits6 : waitsOk laws_eqInS.T6.2 laws_eqInS.B6 = true := by kernel_rfl
theorem laws_eqInS.calls (k : Nat) (A0 : Option Addr) (c0 : Nat) (l0 : List (S34)) (A1 : Option Addr) (c1 : Nat) (l1 : List (S34)) (r : Bool) (w : World) (hr0 : Kd.C k34 w A0 l0.length l0) (hc0 : l0.length ≤ c0) (hr1 : Kd.C k34 w A1 l1.length l1) (hc1 : l1.length ≤ c1) (h : laws_eqInS.f k l0 l1 = some r) :
 Calls Try.prog 66 #[.slice A0 l0.length c0, .slice A1 l1.length c1] w fun e w' => e = .returned (.bool r) ∧ Below w.heap.size w w' := by
 have hu34 := Try.underlying34
 have HR0 := Aside0.mk hr0; have HC0 := Aside0.mk hc0; clear hr0 hc0; have HR1 := Aside0.mk hr1; have HC1 := Aside0.mk hc1; clear hr1 hc1
 have HB := Aside0.mk (Below.refl w.heap.size w)
 have H : (if (l0.length : Int) = (l1.length : Int) then (laws_eqInS.l0 k l0 l1 0) else (some false)) = some r := h
 clear h
 by_cases c3 : (l0.length : Int) = (l1.length : Int)
 · rw [if_pos c3] at H
   have c3b0 : ((l0.length : Int) == (l1.length : Int)) = true := beq_iff_eq.mpr c3
   have c3b1 : ((l0.length : Int) != (l1.length : Int)) = false := bne_eq_false_iff_eq.mpr c3
   have c3b2 : (l0.length == l1.length) = true := by first | simpa using c3 | (simp at c3 ⊢; omega)
   clear c3
   have H' := Aside0.mk H
   clear H
   go_enter Try.func66, Try.ntmps66
   go_wp2
   go_loopg [5] k (fun kq v5 w' => ∃ (x5_1 : Int), v5 = .int .i64 x5_1 ∧ Aside0 (laws_eqInS.l0 kq l0 l1 x5_1 = some r) ∧ Aside0 (kq ≤ k) ∧ Aside0 (Below w.heap.size w w'))
   case atStart => exact ⟨(0), pF, H', ⟨Nat.le_refl _⟩, ⟨pB⟩⟩
   case round =>
    clear H'
    (try clear c1); (try clear p2); (try clear c3); (try clear c3b0); (try clear c3b1); (try clear c3b2)
    obtain ⟨x5_1, rfl, HA, HK1, HB⟩ := hrel
    cases gk with
    | zero => exact absurd HA.out (by simp [laws_eqInS.l0])
    | succ k1 =>
     have H := HA.out
     clear HA
     simp only [laws_eqInS.l0] at H
     by_cases c4 : x5_1 < (l0.length : Int)
     · rw [if_pos c4] at H
       have c4b0 : decide (x5_1 < (l0.length : Int)) = true := decide_eq_true c4
       clear c4
       by_cases c5 : 0 ≤ x5_1
       · rw [if_pos c5] at H
         have c5b0 : decide (0 ≤ x5_1) = true := decide_eq_true c5
         clear c5
         by_cases c6 : x5_1 < (l1.length : Int)
         · rw [if_pos c6] at H
           have c6b0 : decide (x5_1 < (l1.length : Int)) = true := decide_eq_true c6
           clear c6
           obtain ⟨t584, A70, H⟩ := bO H
           replace H : (if t584 = true then (laws_eqInS.l0 k1 l0 l1 (wrap64 (x5_1 + 1))) else (some false)) = some r := H
           have A7 := Aside0.mk A70; clear A70
           by_cases c8 : t584 = true
           · subst c8
             have H1 : (laws_eqInS.l0 k1 l0 l1 (wrap64 (x5_1 + 1))) = some r := by rw [if_pos rfl] at H; exact H
             clear H; have H := H1; clear H1
             have H' := Aside0.mk H
             clear H
             try go_wp2
             have n_ := am (below_drew1 HB.out)
             clear HB; have HB := n_; clear n_
             have p582 : 0 ≤ (x5_1 : Int) := pD
             have q582 : x5_1 < (l0.length : Int) := pD
             obtain ⟨ad582, A582_2, c582_2, e582, hx582_0, hx582_1, hx582_2, hl582_2, hi582_2⟩ := at_T34 HR0.out x5_1 p582 q582
             have hw582_2 := hx582_2
             have hw582_1 := hx582_1
             have hw582_0 := hx582_0
             cases e582; replace hx582_0 := cb HB hx582_0; replace hx582_1 := cb HB hx582_1; replace hx582_2 := cb HB hx582_2; have HR582_2 := Aside0.mk hi582_2; have HC582_2 := Aside0.mk hl582_2; clear hi582_2 hl582_2; replace p582 := eq_true p582; replace q582 := eq_true q582
             have p583 : 0 ≤ (x5_1 : Int) := pD
             have q583 : x5_1 < (l1.length : Int) := pD
             obtain ⟨ad583, A583_2, c583_2, e583, hx583_0, hx583_1, hx583_2, hl583_2, hi583_2⟩ := at_T34 HR1.out x5_1 p583 q583
             have hw583_2 := hx583_2
             have hw583_1 := hx583_1
             have hw583_0 := hx583_0
             cases e583; replace hx583_0 := cb HB hx583_0; replace hx583_1 := cb HB hx583_1; replace hx583_2 := cb HB hx583_2; have HR583_2 := Aside0.mk hi583_2; have HC583_2 := Aside0.mk hl583_2; clear hi583_2 hl583_2; replace p583 := eq_true p583; replace q583 := eq_true q583
             refine start_ (n := 10) (S := fun w' => w'.cell? (ad582.add ((x5_1).toNat * 3)) = some (.int .i64 ((rd_T34 l0 x5_1).f0)) ∧ w'.cell? ⟨(ad582.add ((x5_1).toNat * 3)).block, (ad582.add ((x5_1).toNat * 3)).off + 1, none⟩ = some (.int .i64 ((rd_T34 l0 x5_1).f1)) ∧ w'.cell? ⟨(ad582.add ((x5_1).toNat * 3)).block, (ad582.add ((x5_1).toNat * 3)).off + 2, none⟩ = some (.slice A582_2 ((rd_T34 l0 x5_1).f2).length c582_2) ∧ w'.cell? (ad583.add ((x5_1).toNat * 3)) = some (.int .i64 ((rd_T34 l1 x5_1).f0)) ∧ w'.cell? ⟨(ad583.add ((x5_1).toNat * 3)).block, (ad583.add ((x5_1).toNat * 3)).off + 1, none⟩ = some (.int .i64 ((rd_T34 l1 x5_1).f1)) ∧ w'.cell? ⟨(ad583.add ((x5_1).toNat * 3)).block, (ad583.add ((x5_1).toNat * 3)).off + 2, none⟩ = some (.slice A583_2 ((rd_T34 l1 x5_1).f2).length c583_2)) (ds := []) #[false, false, false, false, false, false, false, false, false, false] (by kernel_rfl) rfl rfl ⟨(cb HB hw582_0), (cb HB hw582_1), (cb HB hw582_2), (cb HB hw583_0), (cb HB hw583_1), (cb HB hw583_2)⟩ (fun hHeld => ?_); refine with_tabW laws_eqInS.tab6 laws_eqInS.bits6 (fun HT_ HW_ => ?_)
             generalize wr.drew = w9 at HB HR582_2 HR583_2 hx582_0 hx582_1 hx582_2 hx583_0 hx583_1 hx583_2 hHeld ⊢
             refine rP 0 (some 17) #[true, false, false, false, false, false, false, false, false, false] (any_of HT_.out (by kernel_rfl)) ?_
             refine rP 1 (some 18) #[true, true, false, false, false, false, false, false, false, false] (any_of HT_.out (by kernel_rfl)) ?_
             refine rP 2 (some 19) #[true, true, true, false, false, false, false, false, false, false] (any_of HT_.out (by kernel_rfl)) ?_
             refine rP 4 (some 21) #[true, true, true, false, true, false, false, false, false, false] (any_of HT_.out (by kernel_rfl)) ?_
             refine rP 5 (some 22) #[true, true, true, false, true, true, false, false, false, false] (any_of HT_.out (by kernel_rfl)) ?_
             refine rP 6 (some 23) #[true, true, true, false, true, true, true, false, false, false] (any_of HT_.out (by kernel_rfl)) ?_
             refine rT 3 (some 20) #[true, true, true, true, true, true, true, false, false, false] (take_ofW HT_.out HW_.out (by kernel_rfl)) hHeld ?_
             refine rT 7 (some 24) #[true, true, true, true, true, true, true, true, false, false] (take_ofW HT_.out HW_.out (by kernel_rfl)) hHeld ?_
             refine one_ (i := 8) (N := some 25) #[true, true, true, true, true, true, true, true, true, false] rfl rfl (one_of HT_.out (by kernel_rfl)) (by decide) (fun K hK => ?_)
             refine goes_ Try.func116 (by kernel_rfl) rfl #[.agg #[.int .i64 ((rd_T34 l0 x5_1).f0), .int .i64 ((rd_T34 l0 x5_1).f1), .slice A582_2 ((rd_T34 l0 x5_1).f2).length c582_2], .agg #[.int .i64 ((rd_T34 l1 x5_1).f0), .int .i64 ((rd_T34 l1 x5_1).f1), .slice A583_2 ((rd_T34 l1 x5_1).f2).length c583_2]] (by rfl) rfl rfl pA ?_
             with_reducible refine (laws_eqIn.calls k1 ((rd_T34 l0 x5_1).f0) ((rd_T34 l0 x5_1).f1) _ _ ((rd_T34 l0 x5_1).f2) ((rd_T34 l1 x5_1).f0) ((rd_T34 l1 x5_1).f1) _ _ ((rd_T34 l1 x5_1).f2) true _ ?side1 ?side2 ?side3 ?side4 A7.out).mono ?_
             (case side1 => exact pC (Kd.C_below HR582_2.out HB.out))
             (case side2 => exact HC582_2.out)
             (case side3 => exact pC (Kd.C_below HR583_2.out HB.out))
             (case side4 => exact HC583_2.out)
             rintro e w10 ⟨rfl, hb⟩
             refine ⟨_, rfl, ?_⟩
             have n_ := am (below_step pB hb)
             clear HB; have HB := n_; clear n_; (try clear hb); (try clear hb2); (try clear hk); (try clear hi)
             refine hK.out _ _ ⟨(cb HB hw582_0), (cb HB hw582_1), (cb HB hw582_2), (cb HB hw583_0), (cb HB hw583_1), (cb HB hw583_2)⟩ (fun hHeld => ?_)
             clear hK K
             refine rN ?_
             refine rP 9 (some 26) #[true, true, true, true, true, true, true, true, true, true] (any_of HT_.out (by kernel_rfl)) ?_
             refine done_ (done_of HT_.out (by kernel_rfl)) ?_
             try go_wp2
             go_roundg k1
             case measure => have := HK1.out; omega
             case rel => exact ⟨(wrap64 (x5_1 + 1)), pF, H', ⟨by have := HK1.out; omega⟩, ⟨pB⟩⟩
           · replace c8 := Bool.eq_false_iff.mpr c8
             subst c8
             have H1 : (some false) = some r := by rw [if_neg (show ¬ (false = true) by decide)] at H; exact H
             clear H; have H := H1; clear H1
             obtain rfl := Option.some.inj H
             try go_wp2
             have n_ := am (below_drew1 HB.out)
             clear HB; have HB := n_; clear n_
             have p582 : 0 ≤ (x5_1 : Int) := pD
             have q582 : x5_1 < (l0.length : Int) := pD
             obtain ⟨ad582, A582_2, c582_2, e582, hx582_0, hx582_1, hx582_2, hl582_2, hi582_2⟩ := at_T34 HR0.out x5_1 p582 q582
             have hw582_2 := hx582_2
             have hw582_1 := hx582_1
             have hw582_0 := hx582_0
             cases e582; replace hx582_0 := cb HB hx582_0; replace hx582_1 := cb HB hx582_1; replace hx582_2 := cb HB hx582_2; have HR582_2 := Aside0.mk hi582_2; have HC582_2 := Aside0.mk hl582_2; clear hi582_2 hl582_2; replace p582 := eq_true p582; replace q582 := eq_true q582
             have p583 : 0 ≤ (x5_1 : Int) := pD
             have q583 : x5_1 < (l1.length : Int) := pD
             obtain ⟨ad583, A583_2, c583_2, e583, hx583_0, hx583_1, hx583_2, hl583_2, hi583_2⟩ := at_T34 HR1.out x5_1 p583 q583
             have hw583_2 := hx583_2
             have hw583_1 := hx583_1
             have hw583_0 := hx583_0
             cases e583; replace hx583_0 := cb HB hx583_0; replace hx583_1 := cb HB hx583_1; replace hx583_2 := cb HB hx583_2; have HR583_2 := Aside0.mk hi583_2; have HC583_2 := Aside0.mk hl583_2; clear hi583_2 hl583_2; replace p583 := eq_true p583; replace q583 := eq_true q583
             refine start_ (n := 10) (S := fun w' => w'.cell? (ad582.add ((x5_1).toNat * 3)) = some (.int .i64 ((rd_T34 l0 x5_1).f0)) ∧ w'.cell? ⟨(ad582.add ((x5_1).toNat * 3)).block, (ad582.add ((x5_1).toNat * 3)).off + 1, none⟩ = some (.int .i64 ((rd_T34 l0 x5_1).f1)) ∧ w'.cell? ⟨(ad582.add ((x5_1).toNat * 3)).block, (ad582.add ((x5_1).toNat * 3)).off + 2, none⟩ = some (.slice A582_2 ((rd_T34 l0 x5_1).f2).length c582_2) ∧ w'.cell? (ad583.add ((x5_1).toNat * 3)) = some (.int .i64 ((rd_T34 l1 x5_1).f0)) ∧ w'.cell? ⟨(ad583.add ((x5_1).toNat * 3)).block, (ad583.add ((x5_1).toNat * 3)).off + 1, none⟩ = some (.int .i64 ((rd_T34 l1 x5_1).f1)) ∧ w'.cell? ⟨(ad583.add ((x5_1).toNat * 3)).block, (ad583.add ((x5_1).toNat * 3)).off + 2, none⟩ = some (.slice A583_2 ((rd_T34 l1 x5_1).f2).length c583_2)) (ds := []) #[false, false, false, false, false, false, false, false, false, false] (by kernel_rfl) rfl rfl ⟨(cb HB hw582_0), (cb HB hw582_1), (cb HB hw582_2), (cb HB hw583_0), (cb HB hw583_1), (cb HB hw583_2)⟩ (fun hHeld => ?_); refine with_tabW laws_eqInS.tab6 laws_eqInS.bits6 (fun HT_ HW_ => ?_)
             generalize wr.drew = w11 at HB HR582_2 HR583_2 hx582_0 hx582_1 hx582_2 hx583_0 hx583_1 hx583_2 hHeld ⊢
             refine rP 0 (some 17) #[true, false, false, false, false, false, false, false, false, false] (any_of HT_.out (by kernel_rfl)) ?_
             refine rP 1 (some 18) #[true, true, false, false, false, false, false, false, false, false] (any_of HT_.out (by kernel_rfl)) ?_
             refine rP 2 (some 19) #[true, true, true, false, false, false, false, false, false, false] (any_of HT_.out (by kernel_rfl)) ?_
             refine rP 4 (some 21) #[true, true, true, false, true, false, false, false, false, false] (any_of HT_.out (by kernel_rfl)) ?_
             refine rP 5 (some 22) #[true, true, true, false, true, true, false, false, false, false] (any_of HT_.out (by kernel_rfl)) ?_
             refine rP 6 (some 23) #[true, true, true, false, true, true, true, false, false, false] (any_of HT_.out (by kernel_rfl)) ?_
             refine rT 3 (some 20) #[true, true, true, true, true, true, true, false, false, false] (take_ofW HT_.out HW_.out (by kernel_rfl)) hHeld ?_
             refine rT 7 (some 24) #[true, true, true, true, true, true, true, true, false, false] (take_ofW HT_.out HW_.out (by kernel_rfl)) hHeld ?_
             refine one_ (i := 8) (N := some 25) #[true, true, true, true, true, true, true, true, true, false] rfl rfl (one_of HT_.out (by kernel_rfl)) (by decide) (fun K hK => ?_)
             refine goes_ Try.func116 (by kernel_rfl) rfl #[.agg #[.int .i64 ((rd_T34 l0 x5_1).f0), .int .i64 ((rd_T34 l0 x5_1).f1), .slice A582_2 ((rd_T34 l0 x5_1).f2).length c582_2], .agg #[.int .i64 ((rd_T34 l1 x5_1).f0), .int .i64 ((rd_T34 l1 x5_1).f1), .slice A583_2 ((rd_T34 l1 x5_1).f2).length c583_2]] (by rfl) rfl rfl pA ?_
             with_reducible refine (laws_eqIn.calls k1 ((rd_T34 l0 x5_1).f0) ((rd_T34 l0 x5_1).f1) _ _ ((rd_T34 l0 x5_1).f2) ((rd_T34 l1 x5_1).f0) ((rd_T34 l1 x5_1).f1) _ _ ((rd_T34 l1 x5_1).f2) false _ ?side1 ?side2 ?side3 ?side4 A7.out).mono ?_
             (case side1 => exact pC (Kd.C_below HR582_2.out HB.out))
             (case side2 => exact HC582_2.out)
             (case side3 => exact pC (Kd.C_below HR583_2.out HB.out))
             (case side4 => exact HC583_2.out)
             rintro e w12 ⟨rfl, hb⟩
             refine ⟨_, rfl, ?_⟩
             have n_ := am (below_step pB hb)
             clear HB; have HB := n_; clear n_; (try clear hb); (try clear hb2); (try clear hk); (try clear hi)
             refine hK.out _ _ ⟨(cb HB hw582_0), (cb HB hw582_1), (cb HB hw582_2), (cb HB hw583_0), (cb HB hw583_1), (cb HB hw583_2)⟩ (fun hHeld => ?_)
             clear hK K
             refine rN ?_
             refine rP 9 (some 26) #[true, true, true, true, true, true, true, true, true, true] (any_of HT_.out (by kernel_rfl)) ?_
             refine done_ (done_of HT_.out (by kernel_rfl)) ?_
             try go_wp2
             go_ret
             exact ⟨pE, pB⟩
         · rw [if_neg c6] at H
           exact absurd H (by simp)
       · rw [if_neg c5] at H
         exact absurd H (by simp)
     · rw [if_neg c4] at H
       have c4b0 : decide (x5_1 < (l0.length : Int)) = false := decide_eq_false c4
       clear c4
       obtain rfl := Option.some.inj H
       go_wp2
       go_ret
       exact ⟨pE, pB⟩
 · rw [if_neg c3] at H
   have c3b0 : ((l0.length : Int) == (l1.length : Int)) = false := beq_eq_false_iff_ne.mpr c3
   have c3b1 : ((l0.length : Int) != (l1.length : Int)) = true := bne_iff_ne.mpr c3
   have c3b2 : (l0.length == l1.length) = false := by first | simpa using c3 | (simp at c3 ⊢; omega)
   obtain rfl := Option.some.inj H
   go_enter Try.func66, Try.ntmps66
   go_wp2
   go_ret
   exact ⟨pE, pB⟩
def laws_eqOut.f (k : Nat) (a0_0 : Int) (l0_1 : List Int) (a1_0 : Int) (l1_1 : List Int) : Option (Bool) := if a0_0 = a1_0 then ((laws_eqInt64S.f k l0_1 l1_1).bind fun t587 => (if t587 = true then (some true) else (some false))) else (some false)
theorem laws_eqOut.mono : ∀ a0 a1 a2 a3 k, LeO (laws_eqOut.f k a0 a1 a2 a3) (laws_eqOut.f (k + 1) a0 a1 a2 a3) := by
 intro a0 a1 a2 a3 k
 unfold laws_eqOut.f
 repeat' with_reducible first | exact laws_eqInt64S.mono _ _ _ | exact LeO.refl _ | exact LeO.none _ | refine LeO.ite ?_ ?_ | refine LeO.bind ?_ (fun _ => ?_)
theorem laws_eqOut.calls (k : Nat) (a0_0 : Int) (A0_1 : Option Addr) (c0_1 : Nat) (l0_1 : List Int) (a1_0 : Int) (A1_1 : Option Addr) (c1_1 : Nat) (l1_1 : List Int) (r : Bool) (w : World) (hr0_1 : Kd.C (Kd.int .i64) w A0_1 l0_1.length l0_1) (hc0_1 : l0_1.length ≤ c0_1) (hr1_1 : Kd.C (Kd.int .i64) w A1_1 l1_1.length l1_1) (hc1_1 : l1_1.length ≤ c1_1) (h : laws_eqOut.f k a0_0 l0_1 a1_0 l1_1 = some r) :
 Calls Try.prog 117 #[.agg #[.int .i64 a0_0, .slice A0_1 l0_1.length c0_1], .agg #[.int .i64 a1_0, .slice A1_1 l1_1.length c1_1]] w fun e w' => e = .returned (.bool r) ∧ Below w.heap.size w w' := by
 have hu86 := Try.underlying86
 have HR0_1 := Aside0.mk hr0_1; have HC0_1 := Aside0.mk hc0_1; clear hr0_1 hc0_1; have HR1_1 := Aside0.mk hr1_1; have HC1_1 := Aside0.mk hc1_1; clear hr1_1 hc1_1
 have HB := Aside0.mk (Below.refl w.heap.size w)
 have H : (if a0_0 = a1_0 then ((laws_eqInt64S.f k l0_1 l1_1).bind fun t587 => (if t587 = true then (some true) else (some false))) else (some false)) = some r := h
 clear h
 by_cases c3 : a0_0 = a1_0
 · rw [if_pos c3] at H
   have c3b0 : (a0_0 == a1_0) = true := beq_iff_eq.mpr c3
   have c3b1 : (a0_0 != a1_0) = false := bne_eq_false_iff_eq.mpr c3
   clear c3
   obtain ⟨t587, A40, H⟩ := bO H
   replace H : (if t587 = true then (some true) else (some false)) = some r := H
   have A4 := Aside0.mk A40; clear A40
   by_cases c5 : t587 = true
   · subst c5
     have H1 : (some true) = some r := by rw [if_pos rfl] at H; exact H
     clear H; have H := H1; clear H1
     obtain rfl := Option.some.inj H
     go_enter Try.func117, Try.ntmps117
     go_wp2_with (first | ((with_reducible refine gate_dst (N := 2) rfl ?_); refine box_event ?hg (N := 2) ?hd (cs := #[.int .i64 a0_0, .slice A0_1 l0_1.length c0_1]) (t := 86) ?hr ?_; (case hd => rfl); (case hg => rfl); (case hr => first | (go_simp; done) | (go_simp; rfl)); intro gb585 hg w6 hbox hb; have n_ := t4 (below_step pB hb) (hbox) ((by rw [hg]; exact (below_size pB) : w.heap.size ≤ gb585)) ((by rw [hg]; exact (below_size pB) : w.heap.size ≤ gb585)); clear HB; obtain ⟨HB, BK585, GW585, GE585⟩ := n_; clear hb hbox hg) | ((with_reducible refine gate_dst (N := 3) rfl ?_); refine box_event ?hg (N := 3) ?hd (cs := #[.int .i64 a1_0, .slice A1_1 l1_1.length c1_1]) (t := 86) ?hr ?_; (case hd => rfl); (case hg => rfl); (case hr => first | (go_simp; done) | (go_simp; rfl)); intro gb586 hg w7 hbox hb; have n_ := t7 (blk_below (g := gb585) (o := .cells #[.int .i64 a0_0, .slice A0_1 l0_1.length c0_1] 86 (0, 0)) (pK BK585) hb) (below_step pB hb) (hbox) ((by rw [hg]; exact (below_size pB) : w.heap.size ≤ gb586)) ((by rw [hg]; exact (below_size pB) : w.heap.size ≤ gb586)) ((by rw [hg]; exact Nat.ne_of_lt (blk_lt (g := gb585) (o := .cells #[.int .i64 a0_0, .slice A0_1 l0_1.length c0_1] 86 (0, 0)) (pK BK585)) : gb585 ≠ gb586)) ((by rw [hg]; exact Nat.ne_of_gt (blk_lt (g := gb585) (o := .cells #[.int .i64 a0_0, .slice A0_1 l0_1.length c0_1] 86 (0, 0)) (pK BK585)) : gb586 ≠ gb585)); clear BK585 HB; obtain ⟨BK585, HB, BK586, GW586, GE586, NB585_586, NB586_585⟩ := n_; clear hb hbox hg; have hnb8 := NB585_586.out; have hnc8 := NB586_585.out; have hcz9_0 : w7.cell? ⟨gb585, 0, none⟩ = some (.int .i64 a0_0) := (blk_cell BK585.out 0).trans rfl; have hcz9_1 : w7.cell? ⟨gb585, 1, none⟩ = some (.slice A0_1 l0_1.length c0_1) := (blk_cell BK585.out 1).trans rfl; have hfz9_0 := blk_frozen BK585.out 0; have hfz9_1 := blk_frozen BK585.out 1; have hcz10_0 : w7.cell? ⟨gb586, 0, none⟩ = some (.int .i64 a1_0) := (blk_cell BK586.out 0).trans rfl; have hcz10_1 : w7.cell? ⟨gb586, 1, none⟩ = some (.slice A1_1 l1_1.length c1_1) := (blk_cell BK586.out 1).trans rfl; have hfz10_0 := blk_frozen BK586.out 0; have hfz10_1 := blk_frozen BK586.out 1) | ((with_reducible refine gate_callee (f := 145) rfl ?_); refine goesL_ (some 14) rfl rfl Try.func145 (by kernel_rfl) rfl #[.slice A0_1 l0_1.length c0_1, .slice A1_1 l1_1.length c1_1] rfl pA ?_; (with_reducible refine (laws_eqInt64S.calls k _ _ l0_1 _ _ l1_1 true _ ?side1 ?side2 ?side3 ?side4 A4.out).mono ?_); (case side1 => exact pC (Kd.C_below HR0_1.out HB.out)); (case side2 => exact HC0_1.out); (case side3 => exact pC (Kd.C_below HR1_1.out HB.out)); (case side4 => exact HC1_1.out); rintro e w' ⟨rfl, ⟨nd, rfl⟩⟩; refine ⟨_, rfl, ?_⟩))
     go_ret
     exact ⟨pE, pB⟩
   · replace c5 := Bool.eq_false_iff.mpr c5
     subst c5
     have H1 : (some false) = some r := by rw [if_neg (show ¬ (false = true) by decide)] at H; exact H
     clear H; have H := H1; clear H1
     obtain rfl := Option.some.inj H
     go_enter Try.func117, Try.ntmps117
     go_wp2_with (first | ((with_reducible refine gate_dst (N := 2) rfl ?_); refine box_event ?hg (N := 2) ?hd (cs := #[.int .i64 a0_0, .slice A0_1 l0_1.length c0_1]) (t := 86) ?hr ?_; (case hd => rfl); (case hg => rfl); (case hr => first | (go_simp; done) | (go_simp; rfl)); intro gb585 hg w11 hbox hb; have n_ := t4 (below_step pB hb) (hbox) ((by rw [hg]; exact (below_size pB) : w.heap.size ≤ gb585)) ((by rw [hg]; exact (below_size pB) : w.heap.size ≤ gb585)); clear HB; obtain ⟨HB, BK585, GW585, GE585⟩ := n_; clear hb hbox hg) | ((with_reducible refine gate_dst (N := 3) rfl ?_); refine box_event ?hg (N := 3) ?hd (cs := #[.int .i64 a1_0, .slice A1_1 l1_1.length c1_1]) (t := 86) ?hr ?_; (case hd => rfl); (case hg => rfl); (case hr => first | (go_simp; done) | (go_simp; rfl)); intro gb586 hg w12 hbox hb; have n_ := t7 (blk_below (g := gb585) (o := .cells #[.int .i64 a0_0, .slice A0_1 l0_1.length c0_1] 86 (0, 0)) (pK BK585) hb) (below_step pB hb) (hbox) ((by rw [hg]; exact (below_size pB) : w.heap.size ≤ gb586)) ((by rw [hg]; exact (below_size pB) : w.heap.size ≤ gb586)) ((by rw [hg]; exact Nat.ne_of_lt (blk_lt (g := gb585) (o := .cells #[.int .i64 a0_0, .slice A0_1 l0_1.length c0_1] 86 (0, 0)) (pK BK585)) : gb585 ≠ gb586)) ((by rw [hg]; exact Nat.ne_of_gt (blk_lt (g := gb585) (o := .cells #[.int .i64 a0_0, .slice A0_1 l0_1.length c0_1] 86 (0, 0)) (pK BK585)) : gb586 ≠ gb585)); clear BK585 HB; obtain ⟨BK585, HB, BK586, GW586, GE586, NB585_586, NB586_585⟩ := n_; clear hb hbox hg; have hnb13 := NB585_586.out; have hnc13 := NB586_585.out; have hcz14_0 : w12.cell? ⟨gb585, 0, none⟩ = some (.int .i64 a0_0) := (blk_cell BK585.out 0).trans rfl; have hcz14_1 : w12.cell? ⟨gb585, 1, none⟩ = some (.slice A0_1 l0_1.length c0_1) := (blk_cell BK585.out 1).trans rfl; have hfz14_0 := blk_frozen BK585.out 0; have hfz14_1 := blk_frozen BK585.out 1; have hcz15_0 : w12.cell? ⟨gb586, 0, none⟩ = some (.int .i64 a1_0) := (blk_cell BK586.out 0).trans rfl; have hcz15_1 : w12.cell? ⟨gb586, 1, none⟩ = some (.slice A1_1 l1_1.length c1_1) := (blk_cell BK586.out 1).trans rfl; have hfz15_0 := blk_frozen BK586.out 0; have hfz15_1 := blk_frozen BK586.out 1) | ((with_reducible refine gate_callee (f := 145) rfl ?_); refine goesL_ (some 14) rfl rfl Try.func145 (by kernel_rfl) rfl #[.slice A0_1 l0_1.length c0_1, .slice A1_1 l1_1.length c1_1] rfl pA ?_; (with_reducible refine (laws_eqInt64S.calls k _ _ l0_1 _ _ l1_1 false _ ?side1 ?side2 ?side3 ?side4 A4.out).mono ?_); (case side1 => exact pC (Kd.C_below HR0_1.out HB.out)); (case side2 => exact HC0_1.out); (case side3 => exact pC (Kd.C_below HR1_1.out HB.out)); (case side4 => exact HC1_1.out); rintro e w' ⟨rfl, ⟨nd, rfl⟩⟩; refine ⟨_, rfl, ?_⟩))
     go_ret
     exact ⟨pE, pB⟩
 · rw [if_neg c3] at H
   have c3b0 : (a0_0 == a1_0) = false := beq_eq_false_iff_ne.mpr c3
   have c3b1 : (a0_0 != a1_0) = true := bne_iff_ne.mpr c3
   obtain rfl := Option.some.inj H
   go_enter Try.func117, Try.ntmps117
   go_wp2_with (first | ((with_reducible refine gate_dst (N := 2) rfl ?_); refine box_event ?hg (N := 2) ?hd (cs := #[.int .i64 a0_0, .slice A0_1 l0_1.length c0_1]) (t := 86) ?hr ?_; (case hd => rfl); (case hg => rfl); (case hr => first | (go_simp; done) | (go_simp; rfl)); intro gb585 hg w16 hbox hb; have n_ := t4 (below_step pB hb) (hbox) ((by rw [hg]; exact (below_size pB) : w.heap.size ≤ gb585)) ((by rw [hg]; exact (below_size pB) : w.heap.size ≤ gb585)); clear HB; obtain ⟨HB, BK585, GW585, GE585⟩ := n_; clear hb hbox hg) | ((with_reducible refine gate_dst (N := 3) rfl ?_); refine box_event ?hg (N := 3) ?hd (cs := #[.int .i64 a1_0, .slice A1_1 l1_1.length c1_1]) (t := 86) ?hr ?_; (case hd => rfl); (case hg => rfl); (case hr => first | (go_simp; done) | (go_simp; rfl)); intro gb586 hg w17 hbox hb; have n_ := t7 (blk_below (g := gb585) (o := .cells #[.int .i64 a0_0, .slice A0_1 l0_1.length c0_1] 86 (0, 0)) (pK BK585) hb) (below_step pB hb) (hbox) ((by rw [hg]; exact (below_size pB) : w.heap.size ≤ gb586)) ((by rw [hg]; exact (below_size pB) : w.heap.size ≤ gb586)) ((by rw [hg]; exact Nat.ne_of_lt (blk_lt (g := gb585) (o := .cells #[.int .i64 a0_0, .slice A0_1 l0_1.length c0_1] 86 (0, 0)) (pK BK585)) : gb585 ≠ gb586)) ((by rw [hg]; exact Nat.ne_of_gt (blk_lt (g := gb585) (o := .cells #[.int .i64 a0_0, .slice A0_1 l0_1.length c0_1] 86 (0, 0)) (pK BK585)) : gb586 ≠ gb585)); clear BK585 HB; obtain ⟨BK585, HB, BK586, GW586, GE586, NB585_586, NB586_585⟩ := n_; clear hb hbox hg; have hnb18 := NB585_586.out; have hnc18 := NB586_585.out; have hcz19_0 : w17.cell? ⟨gb585, 0, none⟩ = some (.int .i64 a0_0) := (blk_cell BK585.out 0).trans rfl; have hcz19_1 : w17.cell? ⟨gb585, 1, none⟩ = some (.slice A0_1 l0_1.length c0_1) := (blk_cell BK585.out 1).trans rfl; have hfz19_0 := blk_frozen BK585.out 0; have hfz19_1 := blk_frozen BK585.out 1; have hcz20_0 : w17.cell? ⟨gb586, 0, none⟩ = some (.int .i64 a1_0) := (blk_cell BK586.out 0).trans rfl; have hcz20_1 : w17.cell? ⟨gb586, 1, none⟩ = some (.slice A1_1 l1_1.length c1_1) := (blk_cell BK586.out 1).trans rfl; have hfz20_0 := blk_frozen BK586.out 0; have hfz20_1 := blk_frozen BK586.out 1))
   go_ret
   exact ⟨pE, pB⟩
end Go.Proofs.Ythjlbpgiaehjnaa.QFnExactBlockFault
