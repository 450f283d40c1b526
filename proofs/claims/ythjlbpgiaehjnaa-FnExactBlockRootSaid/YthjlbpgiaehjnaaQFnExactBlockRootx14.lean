-- written by this session's program (wip/tools/myprint.py)
import Derived.Test.YthjlbpgiaehjnaaQFnExactBlockRootx0
import Derived.Test.YthjlbpgiaehjnaaQFnExactBlockRootx12
import Derived.Test.YthjlbpgiaehjnaaQFnExactBlockRootx13
-- squeezed
namespace Go.Proofs.Ythjlbpgiaehjnaa.QFnExactBlockRoot
open Go.RowKit Go.Proofs.YthjlbpgiaehjnaaW.PrintWords Go.Proofs.YthjlbpgiaehjnaaW.PrintLast Go.Proofs.YthjlbpgiaehjnaaW.PrintMore
attribute [local go_sem] max2_int min2_int max_two min_two max_three min_three max_four min_four   -- for this text's walks alone
set_option linter.unusedVariables false
set_option linter.unusedSimpArgs false
set_option maxHeartbeats 8000000
set_option maxRecDepth 100000
mutual
def impl_TxFault.l0 : Nat → List (S34) → Int → Int → Int → List (S34) → List (S86) → Option (Int)
 | 0, _, _, _, _, _, _ => none
 | k + 1, x27, x28, x29, x435000, x435001, x435002 => if x29 < x28 then (if 0 ≤ x29 then (if x29 < (x27.length : Int) then (if x29 ≤ (x435001.length : Int) then ((impl_inFault.f k ((rd_T34 x27 x29).f0) ((rd_T34 x27 x29).f1) ((rd_T34 x27 x29).f2) (x435001.take (x29 : Int).toNat)).bind fun t443 => (if t443 = 0 then (impl_TxFault.l0 k x27 x28 (wrap64 (x29 + 1)) x435000 x435001 x435002) else (some t443))) else (none)) else (none)) else (none)) else (impl_TxFault.l1 k x435002 (x435002.length : Int) 0 x435000 x435001 x435002)
def impl_TxFault.l1 : Nat → List (S86) → Int → Int → Int → List (S34) → List (S86) → Option (Int)
 | 0, _, _, _, _, _, _ => none
 | k + 1, x45, x46, x47, x435000, x435001, x435002 => if x47 < x46 then (if 0 ≤ x47 then (if x47 < (x45.length : Int) then ((impl_isAmount.f ((rd_T86 x45 x47).f0)).bind fun t446 => (if t446 = true then ((impl_ProgramFault.f k ((rd_T86 x45 x47).f1)).bind fun t447 => (if t447 = 0 then (impl_TxFault.l1 k x45 x46 (wrap64 (x47 + 1)) x435000 x435001 x435002) else (some t447))) else (some 3))) else (none)) else (none)) else ((impl_outSum.f k x435002).bind fun t448 => ((impl_isAmount.f t448).bind fun t449 => (if t449 = true then (some 0) else (some 7))))
end
def impl_TxFault.f (k : Nat) (a0_0 : Int) (l0_1 : List (S34)) (l0_2 : List (S86)) : Option (Int) := (impl_in.f a0_0 0 65535).bind fun t435 => (if t435 = true then (if (l0_1.length : Int) > 4 then (some 2) else ((impl_in.f (l0_2.length : Int) 1 4).bind fun t436 => (if t436 = true then (impl_TxFault.l0 k l0_1 (l0_1.length : Int) 0 a0_0 l0_1 l0_2) else (some 2)))) else (some 3))
theorem impl_TxFault.mono_l : ∀ k, (∀ y0 y1 y2 y3 y4 y5, LeO (impl_TxFault.l0 k y0 y1 y2 y3 y4 y5) (impl_TxFault.l0 (k + 1) y0 y1 y2 y3 y4 y5)) ∧ (∀ y0 y1 y2 y3 y4 y5, LeO (impl_TxFault.l1 k y0 y1 y2 y3 y4 y5) (impl_TxFault.l1 (k + 1) y0 y1 y2 y3 y4 y5))
 | 0 => ⟨fun _ _ _ _ _ _ r h => by simp [impl_TxFault.l0] at h, fun _ _ _ _ _ _ r h => by simp [impl_TxFault.l1] at h⟩
 | k + 1 => by
  obtain ⟨ih0, ih1⟩ := impl_TxFault.mono_l k
  refine ⟨?_, ?_⟩
  · intro y0 y1 y2 y3 y4 y5
    unfold impl_TxFault.l0
    repeat' with_reducible first | exact ih0 _ _ _ _ _ _ | exact ih1 _ _ _ _ _ _ | exact impl_ProgramFault.mono _ _ | exact impl_inFault.mono _ _ _ _ _ | exact impl_outSum.mono _ _ | exact LeO.refl _ | exact LeO.none _ | refine LeO.ite ?_ ?_ | refine LeO.bind ?_ (fun _ => ?_)
  · intro y0 y1 y2 y3 y4 y5
    unfold impl_TxFault.l1
    repeat' with_reducible first | exact ih0 _ _ _ _ _ _ | exact ih1 _ _ _ _ _ _ | exact impl_ProgramFault.mono _ _ | exact impl_inFault.mono _ _ _ _ _ | exact impl_outSum.mono _ _ | exact LeO.refl _ | exact LeO.none _ | refine LeO.ite ?_ ?_ | refine LeO.bind ?_ (fun _ => ?_)
theorem impl_TxFault.mono : ∀ a0 a1 a2 k, LeO (impl_TxFault.f k a0 a1 a2) (impl_TxFault.f (k + 1) a0 a1 a2) := by
 intro a0 a1 a2 k
 obtain ⟨ih0, ih1⟩ := impl_TxFault.mono_l k
 unfold impl_TxFault.f
 repeat' with_reducible first | exact ih0 _ _ _ _ _ _ | exact ih1 _ _ _ _ _ _ | exact impl_ProgramFault.mono _ _ | exact impl_inFault.mono _ _ _ _ _ | exact impl_outSum.mono _ _ | exact LeO.refl _ | exact LeO.none _ | refine LeO.ite ?_ ?_ | refine LeO.bind ?_ (fun _ => ?_)
theorem impl_TxFault.calls (k : Nat) (a0_0 : Int) (A0_1 : Option Addr) (c0_1 : Nat) (l0_1 : List (S34)) (A0_2 : Option Addr) (c0_2 : Nat) (l0_2 : List (S86)) (r : Int) (w : World) (hr0_1 : Kd.C k34 w A0_1 l0_1.length l0_1) (hc0_1 : l0_1.length ≤ c0_1) (hr0_2 : Kd.C k86 w A0_2 l0_2.length l0_2) (hc0_2 : l0_2.length ≤ c0_2) (h : impl_TxFault.f k a0_0 l0_1 l0_2 = some r) :
 Calls Try.prog 16 #[.agg #[.int .i64 a0_0, .slice A0_1 l0_1.length c0_1, .slice A0_2 l0_2.length c0_2]] w fun e w' => e = .returned (.int .i64 r) ∧ Below w.heap.size w w' := by
 have hu27 := Try.underlying27
 have hu34 := Try.underlying34
 have hu86 := Try.underlying86
 have HR0_1 := am hr0_1; have HC0_1 := am hc0_1; clear hr0_1 hc0_1; have HR0_2 := am hr0_2; have HC0_2 := am hc0_2; clear hr0_2 hc0_2
 have HB := am (Below.refl w.heap.size w)
 have H : ((impl_in.f a0_0 0 65535).bind fun t435 => (if t435 = true then (if (l0_1.length : Int) > 4 then (some 2) else ((impl_in.f (l0_2.length : Int) 1 4).bind fun t436 => (if t436 = true then (impl_TxFault.l0 k l0_1 (l0_1.length : Int) 0 a0_0 l0_1 l0_2) else (some 2)))) else (some 3))) = some r := h
 clear h
 obtain ⟨t435, A20, H⟩ := bO H
 replace H : (if t435 = true then (if (l0_1.length : Int) > 4 then (some 2) else ((impl_in.f (l0_2.length : Int) 1 4).bind fun t436 => (if t436 = true then (impl_TxFault.l0 k l0_1 (l0_1.length : Int) 0 a0_0 l0_1 l0_2) else (some 2)))) else (some 3)) = some r := H
 have A2 := am A20; clear A20
 by_cases c3 : t435 = true
 · subst c3
   have H1 : (if (l0_1.length : Int) > 4 then (some 2) else ((impl_in.f (l0_2.length : Int) 1 4).bind fun t436 => (if t436 = true then (impl_TxFault.l0 k l0_1 (l0_1.length : Int) 0 a0_0 l0_1 l0_2) else (some 2)))) = some r := by rw [if_pos rfl] at H; exact H
   clear H; have H := H1; clear H1
   by_cases c4 : (l0_1.length : Int) > 4
   · rw [if_pos c4] at H
     have c4b0 : decide (4 < (l0_1.length : Int)) = true := dt c4
     have c4b1 : decide (4 < l0_1.length) = true := dt (by omega)
     clear c4
     obtain rfl := sj H
     go_enter Try.func16, Try.ntmps16
     go_wp2_with (first | ((with_reducible refine gate_dst (N := 1) rfl ?_); (try (refine gate_guard (by rfl) ?_; dsimp only)); refine box_event ?hg (N := 1) ?hd (cs := #[.int .i64 a0_0, .slice A0_1 l0_1.length c0_1, .slice A0_2 l0_2.length c0_2]) (t := 27) ?hr ?_; (case hd => rfl); (case hg => rfl); (case hr => first | (go_simp; done) | (go_simp; rfl)); intro gb434 hg w5 hbox hb; have n_ := t4 (bz_ pB hb) (hbox) ((by rw [hg]; exact (bs_ pB) : w.heap.size ≤ gb434)) ((by rw [hg]; exact (bs_ pB) : w.heap.size ≤ gb434)); clear HB; obtain ⟨HB, BK434, GW434, GE434⟩ := n_; clear hb hbox hg; have hcz6_0 : w5.cell? ⟨gb434, 0, none⟩ = some (.int .i64 a0_0) := (blk_cell BK434.out 0).trans rfl; have hcz6_1 : w5.cell? ⟨gb434, 1, none⟩ = some (.slice A0_1 l0_1.length c0_1) := (blk_cell BK434.out 1).trans rfl; have hcz6_2 : w5.cell? ⟨gb434, 2, none⟩ = some (.slice A0_2 l0_2.length c0_2) := (blk_cell BK434.out 2).trans rfl; have hfz6_0 := blk_frozen BK434.out 0; have hfz6_1 := blk_frozen BK434.out 1; have hfz6_2 := blk_frozen BK434.out 2) | ((with_reducible refine gC (f := 57) rfl ?_); refine goesL_ (some 12) rfl rfl Try.func57 (by kernel_rfl) rfl #[.int .i64 a0_0, .int .i64 0, .int .i64 65535] rfl pA ?_; (with_reducible refine (impl_in.calls a0_0 0 65535 true _ A2.out).mono ?_); rintro e w' ⟨rfl, ⟨nd, rfl⟩⟩; refine ⟨_, rfl, ?_⟩))
     go_ret
     exact ⟨pE, pB⟩
   · rw [if_neg c4] at H
     have c4b0 : decide (4 < (l0_1.length : Int)) = false := decide_eq_false c4
     have c4b1 : decide (4 < l0_1.length) = false := decide_eq_false (by omega)
     clear c4
     obtain ⟨t436, A70, H⟩ := bO H
     replace H : (if t436 = true then (impl_TxFault.l0 k l0_1 (l0_1.length : Int) 0 a0_0 l0_1 l0_2) else (some 2)) = some r := H
     have A7 := am A70; clear A70
     by_cases c8 : t436 = true
     · subst c8
       have H1 : (impl_TxFault.l0 k l0_1 (l0_1.length : Int) 0 a0_0 l0_1 l0_2) = some r := by rw [if_pos rfl] at H; exact H
       clear H; have H := H1; clear H1
       have H' := am H
       clear H
       go_enter Try.func16, Try.ntmps16
       go_wp2_with (first | ((with_reducible refine gate_dst (N := 1) rfl ?_); (try (refine gate_guard (by rfl) ?_; dsimp only)); refine box_event ?hg (N := 1) ?hd (cs := #[.int .i64 a0_0, .slice A0_1 l0_1.length c0_1, .slice A0_2 l0_2.length c0_2]) (t := 27) ?hr ?_; (case hd => rfl); (case hg => rfl); (case hr => first | (go_simp; done) | (go_simp; rfl)); intro gb434 hg w9 hbox hb; have n_ := t4 (bz_ pB hb) (hbox) ((by rw [hg]; exact (bs_ pB) : w.heap.size ≤ gb434)) ((by rw [hg]; exact (bs_ pB) : w.heap.size ≤ gb434)); clear HB; obtain ⟨HB, BK434, GW434, GE434⟩ := n_; clear hb hbox hg; have hcz10_0 : w9.cell? ⟨gb434, 0, none⟩ = some (.int .i64 a0_0) := (blk_cell BK434.out 0).trans rfl; have hcz10_1 : w9.cell? ⟨gb434, 1, none⟩ = some (.slice A0_1 l0_1.length c0_1) := (blk_cell BK434.out 1).trans rfl; have hcz10_2 : w9.cell? ⟨gb434, 2, none⟩ = some (.slice A0_2 l0_2.length c0_2) := (blk_cell BK434.out 2).trans rfl; have hfz10_0 := blk_frozen BK434.out 0; have hfz10_1 := blk_frozen BK434.out 1; have hfz10_2 := blk_frozen BK434.out 2) | ((with_reducible refine gC (f := 57) rfl ?_); refine goesL_ (some 12) rfl rfl Try.func57 (by kernel_rfl) rfl #[.int .i64 a0_0, .int .i64 0, .int .i64 65535] rfl pA ?_; (with_reducible refine (impl_in.calls a0_0 0 65535 true _ A2.out).mono ?_); rintro e w' ⟨rfl, ⟨nd, rfl⟩⟩; refine ⟨_, rfl, ?_⟩) | (go_at_call 57; (with_reducible refine (impl_in.calls (l0_2.length : Int) 1 4 true _ A7.out).mono ?_); rintro e w' ⟨rfl, ⟨nd, rfl⟩⟩))
       go_loopg [29] k (fun kq v29 w' => ∃ (x29_1 : Int), v29 = .int .i64 x29_1 ∧ Aside0 (impl_TxFault.l0 kq l0_1 (l0_1.length : Int) x29_1 a0_0 l0_1 l0_2 = some r) ∧ Aside0 (kq ≤ k) ∧ Aside0 (w'.heap[gb434]? = some (.cells #[.int .i64 a0_0, (.slice A0_1 l0_1.length c0_1), (.slice A0_2 l0_2.length c0_2)] 27 (0, 0))) ∧ Aside0 (Below w.heap.size w w'))
       case atStart => exact ⟨(0), pF, H', ⟨Nat.le_refl _⟩, ⟨(pK BK434)⟩, ⟨pB⟩⟩
       case round =>
        clear H'
        (try clear c3); (try clear c4); (try clear c4b0); (try clear c4b1); (try clear c8); (try clear hcz10_0); (try clear hcz10_1); (try clear hcz10_2); (try clear hfz10_0); (try clear hfz10_1); (try clear hfz10_2)
        obtain ⟨x29_1, rfl, HA, HK1, BK434, HB⟩ := hrel
        cases gk with
        | zero => exact absurd HA.out (by simp [impl_TxFault.l0])
        | succ k1 =>
         have H := HA.out
         clear HA
         simp only [impl_TxFault.l0] at H
         by_cases c11 : x29_1 < (l0_1.length : Int)
         · rw [if_pos c11] at H
           have c11b0 : decide (x29_1 < (l0_1.length : Int)) = true := dt c11
           clear c11
           by_cases c12 : 0 ≤ x29_1
           · rw [if_pos c12] at H
             have c12b0 : decide (0 ≤ x29_1) = true := dt c12
             clear c12
             by_cases c13 : x29_1 < (l0_1.length : Int)
             · rw [if_pos c13] at H
               have c13b0 : decide (x29_1 < (l0_1.length : Int)) = true := dt c13
               clear c13
               have c14b0 := eq_true (pD : 0 ≤ x29_1)
               by_cases c15 : x29_1 ≤ (l0_1.length : Int)
               · rw [if_pos c15] at H
                 have c15b0 := eq_true c15
                 have c15b1 : decide (x29_1 ≤ (l0_1.length : Int)) = true := dt c15
                 clear c15
                 obtain ⟨y439, hy439⟩ : ∃ y_ : List (S34), y_ = (l0_1.take (x29_1 : Int).toNat) := ⟨_, rfl⟩
                 replace H : ((impl_inFault.f k1 ((rd_T34 l0_1 x29_1).f0) ((rd_T34 l0_1 x29_1).f1) ((rd_T34 l0_1 x29_1).f2) y439).bind fun t443 => (if t443 = 0 then (impl_TxFault.l0 k1 l0_1 (l0_1.length : Int) (wrap64 (x29_1 + 1)) a0_0 l0_1 l0_2) else (some t443))) = some r := by first | (rw [hy439]; with_reducible exact H) | (have H2_ := (Option.bind_some _ _).symm.trans H; rw [hy439]; with_reducible exact H2_) | (have H2_ := (Option.bind_some _ _).symm.trans H; with_reducible exact H2_) | with_reducible exact H | (rw [hy439]; exact H) | exact H
                 have Ny439 := am hy439; clear hy439
                 obtain ⟨t443, A160, H⟩ := bO H
                 replace H : (if t443 = 0 then (impl_TxFault.l0 k1 l0_1 (l0_1.length : Int) (wrap64 (x29_1 + 1)) a0_0 l0_1 l0_2) else (some t443)) = some r := H
                 have A16 := am A160; clear A160
                 by_cases c17 : t443 = 0
                 · rw [if_pos c17] at H
                   have c17b0 : (t443 == 0) = true := beq_iff_eq.mpr c17
                   have c17b1 : (t443 != 0) = false := bne_eq_false_iff_eq.mpr c17
                   clear c17
                   have H' := am H
                   clear H
                   have p437 : 0 ≤ (x29_1 : Int) := pD
                   have q437 : x29_1 < (l0_1.length : Int) := pD
                   obtain ⟨ad437, A437_2, c437_2, e437, hx437_0, hx437_1, hx437_2, hl437_2, hi437_2⟩ := at_T34 HR0_1.out x29_1 p437 q437
                   cases e437; replace hx437_0 := cb HB hx437_0; replace hx437_1 := cb HB hx437_1; replace hx437_2 := cb HB hx437_2; have HR437_2 := am hi437_2; have HC437_2 := am hl437_2; clear hi437_2 hl437_2; replace p437 := eq_true p437; replace q437 := eq_true q437
                   try go_wp2_with (first | ((with_reducible refine gate_dst (N := 4) rfl ?_); (try (refine gate_guard (by rfl) ?_; dsimp only)); refine box_event ?hg (N := 4) ?hd (cs := #[.int .i64 0, .int .i64 0, .slice none 0 0]) (t := 34) ?hr ?_; (case hd => rfl); (case hg => rfl); (case hr => first | (go_simp; done) | (go_simp; rfl)); intro gb438 hg w18 hbox hb; have n_ := t7 (blk_below (g := gb434) (o := .cells #[.int .i64 a0_0, .slice (some ad437) l0_1.length c0_1, .slice A0_2 l0_2.length c0_2] 27 (0, 0)) (pK BK434) hb) (bz_ pB hb) (hbox) ((by rw [hg]; exact (bs_ pB) : w.heap.size ≤ gb438)) ((by rw [hg]; exact (bs_ pB) : w.heap.size ≤ gb438)) ((by rw [hg]; exact Nat.ne_of_lt (blk_lt (g := gb434) (o := .cells #[.int .i64 a0_0, .slice (some ad437) l0_1.length c0_1, .slice A0_2 l0_2.length c0_2] 27 (0, 0)) (pK BK434)) : gb434 ≠ gb438)) ((by rw [hg]; exact Nat.ne_of_gt (blk_lt (g := gb434) (o := .cells #[.int .i64 a0_0, .slice (some ad437) l0_1.length c0_1, .slice A0_2 l0_2.length c0_2] 27 (0, 0)) (pK BK434)) : gb438 ≠ gb434)); clear BK434 HB; obtain ⟨BK434, HB, BK438, GW438, GE438, NB434_438, NB438_434⟩ := n_; clear hb hbox hg; have hnb19 := NB438_434.out; have hnc19 := NB434_438.out; have hcz20_0 : w18.cell? ⟨gb438, 0, none⟩ = some (.int .i64 0) := (blk_cell BK438.out 0).trans rfl; have hcz20_1 : w18.cell? ⟨gb438, 1, none⟩ = some (.int .i64 0) := (blk_cell BK438.out 1).trans rfl; have hcz20_2 : w18.cell? ⟨gb438, 2, none⟩ = some (.slice none 0 0) := (blk_cell BK438.out 2).trans rfl; have hfz20_0 := blk_frozen BK438.out 0; have hfz20_1 := blk_frozen BK438.out 1; have hfz20_2 := blk_frozen BK438.out 2))
                   have n0_ : Aside0 ((((w18.setCell ⟨gb438, 0, none⟩ (.int .i64 ((rd_T34 l0_1 x29_1).f0))).setCell ⟨gb438, 1, none⟩ (.int .i64 ((rd_T34 l0_1 x29_1).f1))).setCell ⟨gb438, 2, none⟩ (.slice A437_2 ((rd_T34 l0_1 x29_1).f2).length c437_2)).heap[gb434]? = some (.cells #[.int .i64 a0_0, .slice (some ad437) l0_1.length c0_1, .slice A0_2 l0_2.length c0_2] 27 (0, 0))) := ⟨by (with_reducible repeat (first | refine blk_drewN ?_ _ | refine blk_drew ?_ | refine blk_alloc ?_ _)); refine blk_far ?_ NB434_438.out _; (with_reducible repeat (first | refine blk_drewN ?_ _ | refine blk_drew ?_ | refine blk_alloc ?_ _)); refine blk_far ?_ NB434_438.out _; (with_reducible repeat (first | refine blk_drewN ?_ _ | refine blk_drew ?_ | refine blk_alloc ?_ _)); refine blk_far ?_ NB434_438.out _; (with_reducible repeat (first | refine blk_drewN ?_ _ | refine blk_drew ?_ | refine blk_alloc ?_ _)); exact BK434.out⟩
                   have n1_ : Aside0 ((((w18.setCell ⟨gb438, 0, none⟩ (.int .i64 ((rd_T34 l0_1 x29_1).f0))).setCell ⟨gb438, 1, none⟩ (.int .i64 ((rd_T34 l0_1 x29_1).f1))).setCell ⟨gb438, 2, none⟩ (.slice A437_2 ((rd_T34 l0_1 x29_1).f2).length c437_2)).heap[gb438]? = some (.cells #[.int .i64 ((rd_T34 l0_1 x29_1).f0), .int .i64 ((rd_T34 l0_1 x29_1).f1), .slice A437_2 ((rd_T34 l0_1 x29_1).f2).length c437_2] 34 (0, 0))) := ⟨by (with_reducible repeat (first | refine blk_drewN ?_ _ | refine blk_drew ?_ | refine blk_alloc ?_ _)); refine blk_put (cs := #[.int .i64 ((rd_T34 l0_1 x29_1).f0), .int .i64 ((rd_T34 l0_1 x29_1).f1), .slice none 0 0]) ?_ 2 _ rfl; (with_reducible repeat (first | refine blk_drewN ?_ _ | refine blk_drew ?_ | refine blk_alloc ?_ _)); refine blk_put (cs := #[.int .i64 ((rd_T34 l0_1 x29_1).f0), .int .i64 0, .slice none 0 0]) ?_ 1 _ rfl; (with_reducible repeat (first | refine blk_drewN ?_ _ | refine blk_drew ?_ | refine blk_alloc ?_ _)); refine blk_put (cs := #[.int .i64 0, .int .i64 0, .slice none 0 0]) ?_ 0 _ rfl; (with_reducible repeat (first | refine blk_drewN ?_ _ | refine blk_drew ?_ | refine blk_alloc ?_ _)); exact BK438.out⟩
                   have n2_ : Aside0 (Below w.heap.size w (((w18.setCell ⟨gb438, 0, none⟩ (.int .i64 ((rd_T34 l0_1 x29_1).f0))).setCell ⟨gb438, 1, none⟩ (.int .i64 ((rd_T34 l0_1 x29_1).f1))).setCell ⟨gb438, 2, none⟩ (.slice A437_2 ((rd_T34 l0_1 x29_1).f2).length c437_2))) := ⟨pB⟩
                   (try clear BK434); (try clear BK438); (try clear HB)
                   generalize (((w18.setCell ⟨gb438, 0, none⟩ (.int .i64 ((rd_T34 l0_1 x29_1).f0))).setCell ⟨gb438, 1, none⟩ (.int .i64 ((rd_T34 l0_1 x29_1).f1))).setCell ⟨gb438, 2, none⟩ (.slice A437_2 ((rd_T34 l0_1 x29_1).f2).length c437_2)) = w21 at n0_ n1_ n2_ ⊢
                   have BK434 := n0_
                   have BK438 := n1_
                   have HB := n2_
                   clear n0_ n1_ n2_
                   have n_ := t3 (blk_drew BK434.out) (blk_drew BK438.out) (below_drew1 HB.out)
                   clear BK434 BK438 HB; obtain ⟨BK434, BK438, HB⟩ := n_
                   have q23 : (x29_1 : Int) ≤ ((l0_1.length : Int) : Int) := pD
                   obtain ⟨i023, hi023, _, hsz23, _⟩ := info_parts info34
                   have hroom23 : l0_1.length ≤ c0_1 := HC0_1.out
                   have hC23 : Kd.C k34 _ (some ad437) l0_1.length l0_1 := HR0_1.out
                   have hcut23 := cut_to (P := Try.prog) 24 34 .i64 Try.underlying24 hi023 (some ad437) l0_1.length c0_1 x29_1 (pD) q23 hroom23
                   have hr23 := Kd.C_take (m := (x29_1 : Int).toNat) hC23 (by omega)
                   have hy23 : y439.length = (x29_1 : Int).toNat := (by rw [Ny439.out, List.length_take]; omega)
                   rw [← Ny439.out] at hr23
                   rw [← hy23] at hcut23
                   have HR442 := am hr23
                   have HC442 := am (show y439.length ≤ c0_1 from by omega)
                   clear hr23 hC23 hroom23 hi023 hsz23; have KY23 := am hy23; clear hy23; replace q23 := eq_true q23
                   refine start_ (n := 7) (S := fun w' => w'.cell? ⟨gb438, 0, none⟩ = some (.int .i64 ((rd_T34 l0_1 x29_1).f0)) ∧ w'.cell? ⟨gb438, 1, none⟩ = some (.int .i64 ((rd_T34 l0_1 x29_1).f1)) ∧ w'.cell? ⟨gb438, 2, none⟩ = some (.slice A437_2 ((rd_T34 l0_1 x29_1).f2).length c437_2) ∧ w'.cell? ⟨gb434, 0, none⟩ = some (.int .i64 a0_0) ∧ w'.cell? ⟨gb434, 1, none⟩ = some (.slice (some ad437) l0_1.length c0_1) ∧ w'.cell? ⟨gb434, 2, none⟩ = some (.slice A0_2 l0_2.length c0_2)) (ds := []) #[false, false, false, false, false, false, false] (by kernel_rfl) rfl rfl ⟨(blk_cell BK438.out 0).trans rfl, (blk_cell BK438.out 1).trans rfl, (blk_cell BK438.out 2).trans rfl, (blk_cell BK434.out 0).trans rfl, (blk_cell BK434.out 1).trans rfl, (blk_cell BK434.out 2).trans rfl⟩ (fun hHeld => ?_)
                   generalize w21.drew = w22 at BK434 BK438 HB HR442 hHeld ⊢
                   refine rP 1 (some 35) #[false, true, false, false, false, false, false] (by kernel_rfl) ?_
                   refine rP 3 (some 37) #[false, true, false, true, false, false, false] (by kernel_rfl) ?_
                   refine rT 0 (some 34) #[true, true, false, true, false, false, false] (by kernel_rfl) hHeld ?_
                   refine rT 2 (some 36) #[true, true, true, true, false, false, false] (by kernel_rfl) hHeld ?_
                   refine rP 4 (some 38) #[true, true, true, true, true, false, false] (by kernel_rfl) ?_
                   refine one_ (i := 5) (N := some 39) #[true, true, true, true, true, true, false] rfl rfl (by kernel_rfl) (by decide) (fun K hK => ?_)
                   refine goes_ Try.func58 (by kernel_rfl) rfl #[.agg #[.int .i64 ((rd_T34 l0_1 x29_1).f0), .int .i64 ((rd_T34 l0_1 x29_1).f1), .slice A437_2 ((rd_T34 l0_1 x29_1).f2).length c437_2], .slice (some ad437) y439.length c0_1] (by rfl) rfl rfl pA ?_
                   with_reducible refine (impl_inFault.calls k1 ((rd_T34 l0_1 x29_1).f0) ((rd_T34 l0_1 x29_1).f1) _ _ ((rd_T34 l0_1 x29_1).f2) _ _ y439 t443 _ ?side1 ?side2 ?side3 ?side4 A16.out).mono ?_
                   (case side1 => exact pC (Kd.C_below HR437_2.out HB.out))
                   (case side2 => exact HC437_2.out)
                   (case side3 => exact pC (Kd.C_below HR442.out HB.out))
                   (case side4 => exact HC442.out)
                   rintro e w24 ⟨rfl, hb⟩
                   refine ⟨_, rfl, ?_⟩
                   have n_ := t3 (blk_below (g := gb434) (o := .cells #[.int .i64 a0_0, .slice (some ad437) l0_1.length c0_1, .slice A0_2 l0_2.length c0_2] 27 (0, 0)) (pK BK434) hb) (blk_below (g := gb438) (o := .cells #[.int .i64 ((rd_T34 l0_1 x29_1).f0), .int .i64 ((rd_T34 l0_1 x29_1).f1), .slice A437_2 ((rd_T34 l0_1 x29_1).f2).length c437_2] 34 (0, 0)) (pK BK438) hb) (bz_ pB hb)
                   clear BK434 BK438 HB; obtain ⟨BK434, BK438, HB⟩ := n_; (try clear hb); (try clear hb2); (try clear hk); (try clear hi)
                   refine hK.out _ _ ⟨(blk_cell BK438.out 0).trans rfl, (blk_cell BK438.out 1).trans rfl, (blk_cell BK438.out 2).trans rfl, (blk_cell BK434.out 0).trans rfl, (blk_cell BK434.out 1).trans rfl, (blk_cell BK434.out 2).trans rfl⟩ (fun hHeld => ?_)
                   clear hK K
                   refine rN ?_
                   refine rP 6 (some 5) #[true, true, true, true, true, true, true] (by kernel_rfl) ?_
                   refine done_ (by kernel_rfl) ?_
                   try go_wp2
                   go_roundg k1
                   case measure => have := HK1.out; omega
                   case rel => exact ⟨(wrap64 (x29_1 + 1)), pF, H', ⟨by have := HK1.out; omega⟩, ⟨(pK BK434)⟩, ⟨pB⟩⟩
                 · rw [if_neg c17] at H
                   have c17b0 : (t443 == 0) = false := beq_eq_false_iff_ne.mpr c17
                   have c17b1 : (t443 != 0) = true := bne_iff_ne.mpr c17
                   obtain rfl := sj H
                   have p437 : 0 ≤ (x29_1 : Int) := pD
                   have q437 : x29_1 < (l0_1.length : Int) := pD
                   obtain ⟨ad437, A437_2, c437_2, e437, hx437_0, hx437_1, hx437_2, hl437_2, hi437_2⟩ := at_T34 HR0_1.out x29_1 p437 q437
                   cases e437; replace hx437_0 := cb HB hx437_0; replace hx437_1 := cb HB hx437_1; replace hx437_2 := cb HB hx437_2; have HR437_2 := am hi437_2; have HC437_2 := am hl437_2; clear hi437_2 hl437_2; replace p437 := eq_true p437; replace q437 := eq_true q437
                   try go_wp2_with (first | ((with_reducible refine gate_dst (N := 4) rfl ?_); (try (refine gate_guard (by rfl) ?_; dsimp only)); refine box_event ?hg (N := 4) ?hd (cs := #[.int .i64 0, .int .i64 0, .slice none 0 0]) (t := 34) ?hr ?_; (case hd => rfl); (case hg => rfl); (case hr => first | (go_simp; done) | (go_simp; rfl)); intro gb438 hg w25 hbox hb; have n_ := t7 (blk_below (g := gb434) (o := .cells #[.int .i64 a0_0, .slice (some ad437) l0_1.length c0_1, .slice A0_2 l0_2.length c0_2] 27 (0, 0)) (pK BK434) hb) (bz_ pB hb) (hbox) ((by rw [hg]; exact (bs_ pB) : w.heap.size ≤ gb438)) ((by rw [hg]; exact (bs_ pB) : w.heap.size ≤ gb438)) ((by rw [hg]; exact Nat.ne_of_lt (blk_lt (g := gb434) (o := .cells #[.int .i64 a0_0, .slice (some ad437) l0_1.length c0_1, .slice A0_2 l0_2.length c0_2] 27 (0, 0)) (pK BK434)) : gb434 ≠ gb438)) ((by rw [hg]; exact Nat.ne_of_gt (blk_lt (g := gb434) (o := .cells #[.int .i64 a0_0, .slice (some ad437) l0_1.length c0_1, .slice A0_2 l0_2.length c0_2] 27 (0, 0)) (pK BK434)) : gb438 ≠ gb434)); clear BK434 HB; obtain ⟨BK434, HB, BK438, GW438, GE438, NB434_438, NB438_434⟩ := n_; clear hb hbox hg; have hnb26 := NB438_434.out; have hnc26 := NB434_438.out; have hcz27_0 : w25.cell? ⟨gb438, 0, none⟩ = some (.int .i64 0) := (blk_cell BK438.out 0).trans rfl; have hcz27_1 : w25.cell? ⟨gb438, 1, none⟩ = some (.int .i64 0) := (blk_cell BK438.out 1).trans rfl; have hcz27_2 : w25.cell? ⟨gb438, 2, none⟩ = some (.slice none 0 0) := (blk_cell BK438.out 2).trans rfl; have hfz27_0 := blk_frozen BK438.out 0; have hfz27_1 := blk_frozen BK438.out 1; have hfz27_2 := blk_frozen BK438.out 2))
                   have n0_ : Aside0 ((((w25.setCell ⟨gb438, 0, none⟩ (.int .i64 ((rd_T34 l0_1 x29_1).f0))).setCell ⟨gb438, 1, none⟩ (.int .i64 ((rd_T34 l0_1 x29_1).f1))).setCell ⟨gb438, 2, none⟩ (.slice A437_2 ((rd_T34 l0_1 x29_1).f2).length c437_2)).heap[gb434]? = some (.cells #[.int .i64 a0_0, .slice (some ad437) l0_1.length c0_1, .slice A0_2 l0_2.length c0_2] 27 (0, 0))) := ⟨by (with_reducible repeat (first | refine blk_drewN ?_ _ | refine blk_drew ?_ | refine blk_alloc ?_ _)); refine blk_far ?_ NB434_438.out _; (with_reducible repeat (first | refine blk_drewN ?_ _ | refine blk_drew ?_ | refine blk_alloc ?_ _)); refine blk_far ?_ NB434_438.out _; (with_reducible repeat (first | refine blk_drewN ?_ _ | refine blk_drew ?_ | refine blk_alloc ?_ _)); refine blk_far ?_ NB434_438.out _; (with_reducible repeat (first | refine blk_drewN ?_ _ | refine blk_drew ?_ | refine blk_alloc ?_ _)); exact BK434.out⟩
                   have n1_ : Aside0 ((((w25.setCell ⟨gb438, 0, none⟩ (.int .i64 ((rd_T34 l0_1 x29_1).f0))).setCell ⟨gb438, 1, none⟩ (.int .i64 ((rd_T34 l0_1 x29_1).f1))).setCell ⟨gb438, 2, none⟩ (.slice A437_2 ((rd_T34 l0_1 x29_1).f2).length c437_2)).heap[gb438]? = some (.cells #[.int .i64 ((rd_T34 l0_1 x29_1).f0), .int .i64 ((rd_T34 l0_1 x29_1).f1), .slice A437_2 ((rd_T34 l0_1 x29_1).f2).length c437_2] 34 (0, 0))) := ⟨by (with_reducible repeat (first | refine blk_drewN ?_ _ | refine blk_drew ?_ | refine blk_alloc ?_ _)); refine blk_put (cs := #[.int .i64 ((rd_T34 l0_1 x29_1).f0), .int .i64 ((rd_T34 l0_1 x29_1).f1), .slice none 0 0]) ?_ 2 _ rfl; (with_reducible repeat (first | refine blk_drewN ?_ _ | refine blk_drew ?_ | refine blk_alloc ?_ _)); refine blk_put (cs := #[.int .i64 ((rd_T34 l0_1 x29_1).f0), .int .i64 0, .slice none 0 0]) ?_ 1 _ rfl; (with_reducible repeat (first | refine blk_drewN ?_ _ | refine blk_drew ?_ | refine blk_alloc ?_ _)); refine blk_put (cs := #[.int .i64 0, .int .i64 0, .slice none 0 0]) ?_ 0 _ rfl; (with_reducible repeat (first | refine blk_drewN ?_ _ | refine blk_drew ?_ | refine blk_alloc ?_ _)); exact BK438.out⟩
                   have n2_ : Aside0 (Below w.heap.size w (((w25.setCell ⟨gb438, 0, none⟩ (.int .i64 ((rd_T34 l0_1 x29_1).f0))).setCell ⟨gb438, 1, none⟩ (.int .i64 ((rd_T34 l0_1 x29_1).f1))).setCell ⟨gb438, 2, none⟩ (.slice A437_2 ((rd_T34 l0_1 x29_1).f2).length c437_2))) := ⟨pB⟩
                   (try clear BK434); (try clear BK438); (try clear HB)
                   generalize (((w25.setCell ⟨gb438, 0, none⟩ (.int .i64 ((rd_T34 l0_1 x29_1).f0))).setCell ⟨gb438, 1, none⟩ (.int .i64 ((rd_T34 l0_1 x29_1).f1))).setCell ⟨gb438, 2, none⟩ (.slice A437_2 ((rd_T34 l0_1 x29_1).f2).length c437_2)) = w28 at n0_ n1_ n2_ ⊢
                   have BK434 := n0_
                   have BK438 := n1_
                   have HB := n2_
                   clear n0_ n1_ n2_
                   have n_ := t3 (blk_drew BK434.out) (blk_drew BK438.out) (below_drew1 HB.out)
                   clear BK434 BK438 HB; obtain ⟨BK434, BK438, HB⟩ := n_
                   have q30 : (x29_1 : Int) ≤ ((l0_1.length : Int) : Int) := pD
                   obtain ⟨i030, hi030, _, hsz30, _⟩ := info_parts info34
                   have hroom30 : l0_1.length ≤ c0_1 := HC0_1.out
                   have hC30 : Kd.C k34 _ (some ad437) l0_1.length l0_1 := HR0_1.out
                   have hcut30 := cut_to (P := Try.prog) 24 34 .i64 Try.underlying24 hi030 (some ad437) l0_1.length c0_1 x29_1 (pD) q30 hroom30
                   have hr30 := Kd.C_take (m := (x29_1 : Int).toNat) hC30 (by omega)
                   have hy30 : y439.length = (x29_1 : Int).toNat := (by rw [Ny439.out, List.length_take]; omega)
                   rw [← Ny439.out] at hr30
                   rw [← hy30] at hcut30
                   have HR442 := am hr30
                   have HC442 := am (show y439.length ≤ c0_1 from by omega)
                   clear hr30 hC30 hroom30 hi030 hsz30; have KY30 := am hy30; clear hy30; replace q30 := eq_true q30
                   refine start_ (n := 7) (S := fun w' => w'.cell? ⟨gb438, 0, none⟩ = some (.int .i64 ((rd_T34 l0_1 x29_1).f0)) ∧ w'.cell? ⟨gb438, 1, none⟩ = some (.int .i64 ((rd_T34 l0_1 x29_1).f1)) ∧ w'.cell? ⟨gb438, 2, none⟩ = some (.slice A437_2 ((rd_T34 l0_1 x29_1).f2).length c437_2) ∧ w'.cell? ⟨gb434, 0, none⟩ = some (.int .i64 a0_0) ∧ w'.cell? ⟨gb434, 1, none⟩ = some (.slice (some ad437) l0_1.length c0_1) ∧ w'.cell? ⟨gb434, 2, none⟩ = some (.slice A0_2 l0_2.length c0_2)) (ds := []) #[false, false, false, false, false, false, false] (by kernel_rfl) rfl rfl ⟨(blk_cell BK438.out 0).trans rfl, (blk_cell BK438.out 1).trans rfl, (blk_cell BK438.out 2).trans rfl, (blk_cell BK434.out 0).trans rfl, (blk_cell BK434.out 1).trans rfl, (blk_cell BK434.out 2).trans rfl⟩ (fun hHeld => ?_)
                   generalize w28.drew = w29 at BK434 BK438 HB HR442 hHeld ⊢
                   refine rP 1 (some 35) #[false, true, false, false, false, false, false] (by kernel_rfl) ?_
                   refine rP 3 (some 37) #[false, true, false, true, false, false, false] (by kernel_rfl) ?_
                   refine rT 0 (some 34) #[true, true, false, true, false, false, false] (by kernel_rfl) hHeld ?_
                   refine rT 2 (some 36) #[true, true, true, true, false, false, false] (by kernel_rfl) hHeld ?_
                   refine rP 4 (some 38) #[true, true, true, true, true, false, false] (by kernel_rfl) ?_
                   refine one_ (i := 5) (N := some 39) #[true, true, true, true, true, true, false] rfl rfl (by kernel_rfl) (by decide) (fun K hK => ?_)
                   refine goes_ Try.func58 (by kernel_rfl) rfl #[.agg #[.int .i64 ((rd_T34 l0_1 x29_1).f0), .int .i64 ((rd_T34 l0_1 x29_1).f1), .slice A437_2 ((rd_T34 l0_1 x29_1).f2).length c437_2], .slice (some ad437) y439.length c0_1] (by rfl) rfl rfl pA ?_
                   with_reducible refine (impl_inFault.calls k1 ((rd_T34 l0_1 x29_1).f0) ((rd_T34 l0_1 x29_1).f1) _ _ ((rd_T34 l0_1 x29_1).f2) _ _ y439 t443 _ ?side1 ?side2 ?side3 ?side4 A16.out).mono ?_
                   (case side1 => exact pC (Kd.C_below HR437_2.out HB.out))
                   (case side2 => exact HC437_2.out)
                   (case side3 => exact pC (Kd.C_below HR442.out HB.out))
                   (case side4 => exact HC442.out)
                   rintro e w31 ⟨rfl, hb⟩
                   refine ⟨_, rfl, ?_⟩
                   have n_ := t3 (blk_below (g := gb434) (o := .cells #[.int .i64 a0_0, .slice (some ad437) l0_1.length c0_1, .slice A0_2 l0_2.length c0_2] 27 (0, 0)) (pK BK434) hb) (blk_below (g := gb438) (o := .cells #[.int .i64 ((rd_T34 l0_1 x29_1).f0), .int .i64 ((rd_T34 l0_1 x29_1).f1), .slice A437_2 ((rd_T34 l0_1 x29_1).f2).length c437_2] 34 (0, 0)) (pK BK438) hb) (bz_ pB hb)
                   clear BK434 BK438 HB; obtain ⟨BK434, BK438, HB⟩ := n_; (try clear hb); (try clear hb2); (try clear hk); (try clear hi)
                   refine hK.out _ _ ⟨(blk_cell BK438.out 0).trans rfl, (blk_cell BK438.out 1).trans rfl, (blk_cell BK438.out 2).trans rfl, (blk_cell BK434.out 0).trans rfl, (blk_cell BK434.out 1).trans rfl, (blk_cell BK434.out 2).trans rfl⟩ (fun hHeld => ?_)
                   clear hK K
                   refine rN ?_
                   refine rP 6 (some 5) #[true, true, true, true, true, true, true] (by kernel_rfl) ?_
                   refine done_ (by kernel_rfl) ?_
                   try go_wp2
                   go_ret
                   exact ⟨pE, pB⟩
               · rw [if_neg c15] at H
                 exact absurd H (by simp)
             · rw [if_neg c13] at H
               exact absurd H (by simp)
           · rw [if_neg c12] at H
             exact absurd H (by simp)
         · rw [if_neg c11] at H
           have c11b0 : decide (x29_1 < (l0_1.length : Int)) = false := decide_eq_false c11
           clear c11
           have H' := am H
           clear H
           obtain ⟨hcz32_0, hcz32_1, hcz32_2, hfz32_0, hfz32_1, hfz32_2⟩ := bx3 BK434
           go_wp2
           go_loopg [47] k1 (fun kq v47 w' => ∃ (x47_2 : Int), v47 = .int .i64 x47_2 ∧ Aside0 (impl_TxFault.l1 kq l0_2 (l0_2.length : Int) x47_2 a0_0 l0_1 l0_2 = some r) ∧ Aside0 (kq ≤ k1) ∧ Aside0 (w'.heap[gb434]? = some (.cells #[.int .i64 a0_0, (.slice A0_1 l0_1.length c0_1), (.slice A0_2 l0_2.length c0_2)] 27 (0, 0))) ∧ Aside0 (Below w.heap.size w w'))
           case atStart => exact ⟨(0), pF, H', ⟨Nat.le_refl _⟩, ⟨(pK BK434)⟩, ⟨pB⟩⟩
           case round =>
            clear H'
            (try clear c3); (try clear c4); (try clear c4b0); (try clear c4b1); (try clear c8); (try clear c11); (try clear c11b0); (try clear hcz10_0); (try clear hcz10_1); (try clear hcz10_2); (try clear hcz32_0); (try clear hcz32_1); (try clear hcz32_2); (try clear hfz10_0); (try clear hfz10_1); (try clear hfz10_2); (try clear hfz32_0); (try clear hfz32_1); (try clear hfz32_2)
            obtain ⟨x47_2, rfl, HA, HK2, BK434, HB⟩ := hrel
            cases gk with
            | zero => exact absurd HA.out (by simp [impl_TxFault.l1])
            | succ k2 =>
             have H := HA.out
             clear HA
             simp only [impl_TxFault.l1] at H
             by_cases c33 : x47_2 < (l0_2.length : Int)
             · rw [if_pos c33] at H
               have c33b0 : decide (x47_2 < (l0_2.length : Int)) = true := dt c33
               clear c33
               by_cases c34 : 0 ≤ x47_2
               · rw [if_pos c34] at H
                 have c34b0 : decide (0 ≤ x47_2) = true := dt c34
                 clear c34
                 by_cases c35 : x47_2 < (l0_2.length : Int)
                 · rw [if_pos c35] at H
                   have c35b0 : decide (x47_2 < (l0_2.length : Int)) = true := dt c35
                   clear c35
                   obtain ⟨t446, A360, H⟩ := bO H
                   replace H : (if t446 = true then ((impl_ProgramFault.f k2 ((rd_T86 l0_2 x47_2).f1)).bind fun t447 => (if t447 = 0 then (impl_TxFault.l1 k2 l0_2 (l0_2.length : Int) (wrap64 (x47_2 + 1)) a0_0 l0_1 l0_2) else (some t447))) else (some 3)) = some r := H
                   have A36 := am A360; clear A360
                   by_cases c37 : t446 = true
                   · subst c37
                     have H1 : ((impl_ProgramFault.f k2 ((rd_T86 l0_2 x47_2).f1)).bind fun t447 => (if t447 = 0 then (impl_TxFault.l1 k2 l0_2 (l0_2.length : Int) (wrap64 (x47_2 + 1)) a0_0 l0_1 l0_2) else (some t447))) = some r := by rw [if_pos rfl] at H; exact H
                     clear H; have H := H1; clear H1
                     obtain ⟨t447, A380, H⟩ := bO H
                     replace H : (if t447 = 0 then (impl_TxFault.l1 k2 l0_2 (l0_2.length : Int) (wrap64 (x47_2 + 1)) a0_0 l0_1 l0_2) else (some t447)) = some r := H
                     have A38 := am A380; clear A380
                     by_cases c39 : t447 = 0
                     · rw [if_pos c39] at H
                       have c39b0 : (t447 == 0) = true := beq_iff_eq.mpr c39
                       have c39b1 : (t447 != 0) = false := bne_eq_false_iff_eq.mpr c39
                       clear c39
                       have H' := am H
                       clear H
                       have p444 : 0 ≤ (x47_2 : Int) := pD
                       have q444 : x47_2 < (l0_2.length : Int) := pD
                       obtain ⟨ad444, A444_1, c444_1, e444, hx444_0, hx444_1, hl444_1, hi444_1⟩ := at_T86 HR0_2.out x47_2 p444 q444
                       cases e444; replace hx444_0 := cb HB hx444_0; replace hx444_1 := cb HB hx444_1; have HR444_1 := am hi444_1; have HC444_1 := am hl444_1; clear hi444_1 hl444_1; replace p444 := eq_true p444; replace q444 := eq_true q444
                       go_wp2_with (first | ((with_reducible refine gate_dst (N := 7) rfl ?_); (try (refine gate_guard (by rfl) ?_; dsimp only)); refine box_event ?hg (N := 7) ?hd (cs := #[.int .i64 0, .slice none 0 0]) (t := 86) ?hr ?_; (case hd => rfl); (case hg => rfl); (case hr => first | (go_simp; done) | (go_simp; rfl)); intro gb445 hg w40 hbox hb; have n_ := t7 (blk_below (g := gb434) (o := .cells #[.int .i64 a0_0, .slice A0_1 l0_1.length c0_1, .slice (some ad444) l0_2.length c0_2] 27 (0, 0)) (pK BK434) hb) (bz_ pB hb) (hbox) ((by rw [hg]; exact (bs_ pB) : w.heap.size ≤ gb445)) ((by rw [hg]; exact (bs_ pB) : w.heap.size ≤ gb445)) ((by rw [hg]; exact Nat.ne_of_lt (blk_lt (g := gb434) (o := .cells #[.int .i64 a0_0, .slice A0_1 l0_1.length c0_1, .slice (some ad444) l0_2.length c0_2] 27 (0, 0)) (pK BK434)) : gb434 ≠ gb445)) ((by rw [hg]; exact Nat.ne_of_gt (blk_lt (g := gb434) (o := .cells #[.int .i64 a0_0, .slice A0_1 l0_1.length c0_1, .slice (some ad444) l0_2.length c0_2] 27 (0, 0)) (pK BK434)) : gb445 ≠ gb434)); clear BK434 HB; obtain ⟨BK434, HB, BK445, GW445, GE445, NB434_445, NB445_434⟩ := n_; clear hb hbox hg; have hnb41 := NB445_434.out; have hnc41 := NB434_445.out; have hcz42_0 : w40.cell? ⟨gb445, 0, none⟩ = some (.int .i64 0) := (blk_cell BK445.out 0).trans rfl; have hcz42_1 : w40.cell? ⟨gb445, 1, none⟩ = some (.slice none 0 0) := (blk_cell BK445.out 1).trans rfl; have hfz42_0 := blk_frozen BK445.out 0; have hfz42_1 := blk_frozen BK445.out 1) | ((with_reducible refine gC (f := 59) rfl ?_); refine goesL_ (some 53) rfl rfl Try.func59 (by kernel_rfl) rfl #[.int .i64 ((rd_T86 l0_2 x47_2).f0)] rfl pA ?_; (with_reducible refine (impl_isAmount.calls ((rd_T86 l0_2 x47_2).f0) true _ A36.out).mono ?_); rintro e w' ⟨rfl, ⟨nd, rfl⟩⟩; refine ⟨_, rfl, ?_⟩) | ((with_reducible refine gC (f := 60) rfl ?_); refine goesL_ (some 57) rfl rfl Try.func60 (by kernel_rfl) rfl #[.slice A444_1 ((rd_T86 l0_2 x47_2).f1).length c444_1] rfl pA ?_; (with_reducible refine (impl_ProgramFault.calls k2 _ _ ((rd_T86 l0_2 x47_2).f1) t447 _ ?side1 ?side2 A38.out).mono ?_); (case side1 => exact Kd.C_below HR444_1.out pB); (case side2 => exact HC444_1.out); rintro e w' ⟨rfl, ⟨nd, rfl⟩⟩; refine ⟨_, rfl, ?_⟩))
                       go_roundg k2
                       case measure => have := HK1.out; have := HK2.out; omega
                       case rel => exact ⟨(wrap64 (x47_2 + 1)), pF, H', ⟨by have := HK1.out; have := HK2.out; omega⟩, ⟨by (with_reducible repeat (first | refine blk_drewN ?_ _ | refine blk_drew ?_ | refine blk_alloc ?_ _)); refine blk_far ?_ NB434_445.out _; (with_reducible repeat (first | refine blk_drewN ?_ _ | refine blk_drew ?_ | refine blk_alloc ?_ _)); refine blk_far ?_ NB434_445.out _; (with_reducible repeat (first | refine blk_drewN ?_ _ | refine blk_drew ?_ | refine blk_alloc ?_ _)); exact BK434.out⟩, ⟨pB⟩⟩
                     · rw [if_neg c39] at H
                       have c39b0 : (t447 == 0) = false := beq_eq_false_iff_ne.mpr c39
                       have c39b1 : (t447 != 0) = true := bne_iff_ne.mpr c39
                       obtain rfl := sj H
                       have p444 : 0 ≤ (x47_2 : Int) := pD
                       have q444 : x47_2 < (l0_2.length : Int) := pD
                       obtain ⟨ad444, A444_1, c444_1, e444, hx444_0, hx444_1, hl444_1, hi444_1⟩ := at_T86 HR0_2.out x47_2 p444 q444
                       cases e444; replace hx444_0 := cb HB hx444_0; replace hx444_1 := cb HB hx444_1; have HR444_1 := am hi444_1; have HC444_1 := am hl444_1; clear hi444_1 hl444_1; replace p444 := eq_true p444; replace q444 := eq_true q444
                       go_wp2_with (first | ((with_reducible refine gate_dst (N := 7) rfl ?_); (try (refine gate_guard (by rfl) ?_; dsimp only)); refine box_event ?hg (N := 7) ?hd (cs := #[.int .i64 0, .slice none 0 0]) (t := 86) ?hr ?_; (case hd => rfl); (case hg => rfl); (case hr => first | (go_simp; done) | (go_simp; rfl)); intro gb445 hg w43 hbox hb; have n_ := t7 (blk_below (g := gb434) (o := .cells #[.int .i64 a0_0, .slice A0_1 l0_1.length c0_1, .slice (some ad444) l0_2.length c0_2] 27 (0, 0)) (pK BK434) hb) (bz_ pB hb) (hbox) ((by rw [hg]; exact (bs_ pB) : w.heap.size ≤ gb445)) ((by rw [hg]; exact (bs_ pB) : w.heap.size ≤ gb445)) ((by rw [hg]; exact Nat.ne_of_lt (blk_lt (g := gb434) (o := .cells #[.int .i64 a0_0, .slice A0_1 l0_1.length c0_1, .slice (some ad444) l0_2.length c0_2] 27 (0, 0)) (pK BK434)) : gb434 ≠ gb445)) ((by rw [hg]; exact Nat.ne_of_gt (blk_lt (g := gb434) (o := .cells #[.int .i64 a0_0, .slice A0_1 l0_1.length c0_1, .slice (some ad444) l0_2.length c0_2] 27 (0, 0)) (pK BK434)) : gb445 ≠ gb434)); clear BK434 HB; obtain ⟨BK434, HB, BK445, GW445, GE445, NB434_445, NB445_434⟩ := n_; clear hb hbox hg; have hnb44 := NB445_434.out; have hnc44 := NB434_445.out; have hcz45_0 : w43.cell? ⟨gb445, 0, none⟩ = some (.int .i64 0) := (blk_cell BK445.out 0).trans rfl; have hcz45_1 : w43.cell? ⟨gb445, 1, none⟩ = some (.slice none 0 0) := (blk_cell BK445.out 1).trans rfl; have hfz45_0 := blk_frozen BK445.out 0; have hfz45_1 := blk_frozen BK445.out 1) | ((with_reducible refine gC (f := 59) rfl ?_); refine goesL_ (some 53) rfl rfl Try.func59 (by kernel_rfl) rfl #[.int .i64 ((rd_T86 l0_2 x47_2).f0)] rfl pA ?_; (with_reducible refine (impl_isAmount.calls ((rd_T86 l0_2 x47_2).f0) true _ A36.out).mono ?_); rintro e w' ⟨rfl, ⟨nd, rfl⟩⟩; refine ⟨_, rfl, ?_⟩) | ((with_reducible refine gC (f := 60) rfl ?_); refine goesL_ (some 57) rfl rfl Try.func60 (by kernel_rfl) rfl #[.slice A444_1 ((rd_T86 l0_2 x47_2).f1).length c444_1] rfl pA ?_; (with_reducible refine (impl_ProgramFault.calls k2 _ _ ((rd_T86 l0_2 x47_2).f1) t447 _ ?side1 ?side2 A38.out).mono ?_); (case side1 => exact Kd.C_below HR444_1.out pB); (case side2 => exact HC444_1.out); rintro e w' ⟨rfl, ⟨nd, rfl⟩⟩; refine ⟨_, rfl, ?_⟩))
                       go_ret
                       exact ⟨pE, pB⟩
                   · replace c37 := Bool.eq_false_iff.mpr c37
                     subst c37
                     have H1 : (some 3) = some r := by rw [if_neg (show ¬ (false = true) by decide)] at H; exact H
                     clear H; have H := H1; clear H1
                     obtain rfl := sj H
                     have p444 : 0 ≤ (x47_2 : Int) := pD
                     have q444 : x47_2 < (l0_2.length : Int) := pD
                     obtain ⟨ad444, A444_1, c444_1, e444, hx444_0, hx444_1, hl444_1, hi444_1⟩ := at_T86 HR0_2.out x47_2 p444 q444
                     cases e444; replace hx444_0 := cb HB hx444_0; replace hx444_1 := cb HB hx444_1; have HR444_1 := am hi444_1; have HC444_1 := am hl444_1; clear hi444_1 hl444_1; replace p444 := eq_true p444; replace q444 := eq_true q444
                     go_wp2_with (first | ((with_reducible refine gate_dst (N := 7) rfl ?_); (try (refine gate_guard (by rfl) ?_; dsimp only)); refine box_event ?hg (N := 7) ?hd (cs := #[.int .i64 0, .slice none 0 0]) (t := 86) ?hr ?_; (case hd => rfl); (case hg => rfl); (case hr => first | (go_simp; done) | (go_simp; rfl)); intro gb445 hg w46 hbox hb; have n_ := t7 (blk_below (g := gb434) (o := .cells #[.int .i64 a0_0, .slice A0_1 l0_1.length c0_1, .slice (some ad444) l0_2.length c0_2] 27 (0, 0)) (pK BK434) hb) (bz_ pB hb) (hbox) ((by rw [hg]; exact (bs_ pB) : w.heap.size ≤ gb445)) ((by rw [hg]; exact (bs_ pB) : w.heap.size ≤ gb445)) ((by rw [hg]; exact Nat.ne_of_lt (blk_lt (g := gb434) (o := .cells #[.int .i64 a0_0, .slice A0_1 l0_1.length c0_1, .slice (some ad444) l0_2.length c0_2] 27 (0, 0)) (pK BK434)) : gb434 ≠ gb445)) ((by rw [hg]; exact Nat.ne_of_gt (blk_lt (g := gb434) (o := .cells #[.int .i64 a0_0, .slice A0_1 l0_1.length c0_1, .slice (some ad444) l0_2.length c0_2] 27 (0, 0)) (pK BK434)) : gb445 ≠ gb434)); clear BK434 HB; obtain ⟨BK434, HB, BK445, GW445, GE445, NB434_445, NB445_434⟩ := n_; clear hb hbox hg; have hnb47 := NB445_434.out; have hnc47 := NB434_445.out; have hcz48_0 : w46.cell? ⟨gb445, 0, none⟩ = some (.int .i64 0) := (blk_cell BK445.out 0).trans rfl; have hcz48_1 : w46.cell? ⟨gb445, 1, none⟩ = some (.slice none 0 0) := (blk_cell BK445.out 1).trans rfl; have hfz48_0 := blk_frozen BK445.out 0; have hfz48_1 := blk_frozen BK445.out 1) | ((with_reducible refine gC (f := 59) rfl ?_); refine goesL_ (some 53) rfl rfl Try.func59 (by kernel_rfl) rfl #[.int .i64 ((rd_T86 l0_2 x47_2).f0)] rfl pA ?_; (with_reducible refine (impl_isAmount.calls ((rd_T86 l0_2 x47_2).f0) false _ A36.out).mono ?_); rintro e w' ⟨rfl, ⟨nd, rfl⟩⟩; refine ⟨_, rfl, ?_⟩))
                     go_ret
                     exact ⟨pE, pB⟩
                 · rw [if_neg c35] at H
                   exact absurd H (by simp)
               · rw [if_neg c34] at H
                 exact absurd H (by simp)
             · rw [if_neg c33] at H
               have c33b0 : decide (x47_2 < (l0_2.length : Int)) = false := decide_eq_false c33
               clear c33
               obtain ⟨t448, A490, H⟩ := bO H
               replace H : ((impl_isAmount.f t448).bind fun t449 => (if t449 = true then (some 0) else (some 7))) = some r := H
               have A49 := am A490; clear A490
               obtain ⟨t449, A500, H⟩ := bO H
               replace H : (if t449 = true then (some 0) else (some 7)) = some r := H
               have A50 := am A500; clear A500
               by_cases c51 : t449 = true
               · subst c51
                 have H1 : (some 0) = some r := by rw [if_pos rfl] at H; exact H
                 clear H; have H := H1; clear H1
                 obtain rfl := sj H
                 obtain ⟨hcz52_0, hcz52_1, hcz52_2, hfz52_0, hfz52_1, hfz52_2⟩ := bx3 BK434
                 go_wp2_with (first | ((with_reducible refine gC (f := 61) rfl ?_); refine goesL_ (some 64) rfl rfl Try.func61 (by kernel_rfl) rfl #[.slice A0_2 l0_2.length c0_2] rfl pA ?_; (with_reducible refine (impl_outSum.calls k2 _ _ l0_2 t448 _ ?side1 ?side2 A49.out).mono ?_); (case side1 => exact pC (Kd.C_below HR0_2.out HB.out)); (case side2 => exact HC0_2.out); rintro e w53 ⟨rfl, hb⟩; refine ⟨_, rfl, ?_⟩; have n_ := t2 (blk_below (g := gb434) (o := .cells #[.int .i64 a0_0, .slice A0_1 l0_1.length c0_1, .slice A0_2 l0_2.length c0_2] 27 (0, 0)) (pK BK434) hb) (bz_ pB hb); clear BK434 HB; obtain ⟨BK434, HB⟩ := n_; (try clear hb)) | ((with_reducible refine gC (f := 59) rfl ?_); refine goesL_ (some 65) rfl rfl Try.func59 (by kernel_rfl) rfl #[.int .i64 t448] rfl pA ?_; (with_reducible refine (impl_isAmount.calls t448 true _ A50.out).mono ?_); rintro e w' ⟨rfl, ⟨nd, rfl⟩⟩; refine ⟨_, rfl, ?_⟩))
                 go_ret
                 exact ⟨pE, pB⟩
               · replace c51 := Bool.eq_false_iff.mpr c51
                 subst c51
                 have H1 : (some 7) = some r := by rw [if_neg (show ¬ (false = true) by decide)] at H; exact H
                 clear H; have H := H1; clear H1
                 obtain rfl := sj H
                 obtain ⟨hcz54_0, hcz54_1, hcz54_2, hfz54_0, hfz54_1, hfz54_2⟩ := bx3 BK434
                 go_wp2_with (first | ((with_reducible refine gC (f := 61) rfl ?_); refine goesL_ (some 64) rfl rfl Try.func61 (by kernel_rfl) rfl #[.slice A0_2 l0_2.length c0_2] rfl pA ?_; (with_reducible refine (impl_outSum.calls k2 _ _ l0_2 t448 _ ?side1 ?side2 A49.out).mono ?_); (case side1 => exact pC (Kd.C_below HR0_2.out HB.out)); (case side2 => exact HC0_2.out); rintro e w55 ⟨rfl, hb⟩; refine ⟨_, rfl, ?_⟩; have n_ := t2 (blk_below (g := gb434) (o := .cells #[.int .i64 a0_0, .slice A0_1 l0_1.length c0_1, .slice A0_2 l0_2.length c0_2] 27 (0, 0)) (pK BK434) hb) (bz_ pB hb); clear BK434 HB; obtain ⟨BK434, HB⟩ := n_; (try clear hb)) | ((with_reducible refine gC (f := 59) rfl ?_); refine goesL_ (some 65) rfl rfl Try.func59 (by kernel_rfl) rfl #[.int .i64 t448] rfl pA ?_; (with_reducible refine (impl_isAmount.calls t448 false _ A50.out).mono ?_); rintro e w' ⟨rfl, ⟨nd, rfl⟩⟩; refine ⟨_, rfl, ?_⟩))
                 go_ret
                 exact ⟨pE, pB⟩
     · replace c8 := Bool.eq_false_iff.mpr c8
       subst c8
       have H1 : (some 2) = some r := by rw [if_neg (show ¬ (false = true) by decide)] at H; exact H
       clear H; have H := H1; clear H1
       obtain rfl := sj H
       go_enter Try.func16, Try.ntmps16
       go_wp2_with (first | ((with_reducible refine gate_dst (N := 1) rfl ?_); (try (refine gate_guard (by rfl) ?_; dsimp only)); refine box_event ?hg (N := 1) ?hd (cs := #[.int .i64 a0_0, .slice A0_1 l0_1.length c0_1, .slice A0_2 l0_2.length c0_2]) (t := 27) ?hr ?_; (case hd => rfl); (case hg => rfl); (case hr => first | (go_simp; done) | (go_simp; rfl)); intro gb434 hg w56 hbox hb; have n_ := t4 (bz_ pB hb) (hbox) ((by rw [hg]; exact (bs_ pB) : w.heap.size ≤ gb434)) ((by rw [hg]; exact (bs_ pB) : w.heap.size ≤ gb434)); clear HB; obtain ⟨HB, BK434, GW434, GE434⟩ := n_; clear hb hbox hg; have hcz57_0 : w56.cell? ⟨gb434, 0, none⟩ = some (.int .i64 a0_0) := (blk_cell BK434.out 0).trans rfl; have hcz57_1 : w56.cell? ⟨gb434, 1, none⟩ = some (.slice A0_1 l0_1.length c0_1) := (blk_cell BK434.out 1).trans rfl; have hcz57_2 : w56.cell? ⟨gb434, 2, none⟩ = some (.slice A0_2 l0_2.length c0_2) := (blk_cell BK434.out 2).trans rfl; have hfz57_0 := blk_frozen BK434.out 0; have hfz57_1 := blk_frozen BK434.out 1; have hfz57_2 := blk_frozen BK434.out 2) | ((with_reducible refine gC (f := 57) rfl ?_); refine goesL_ (some 12) rfl rfl Try.func57 (by kernel_rfl) rfl #[.int .i64 a0_0, .int .i64 0, .int .i64 65535] rfl pA ?_; (with_reducible refine (impl_in.calls a0_0 0 65535 true _ A2.out).mono ?_); rintro e w' ⟨rfl, ⟨nd, rfl⟩⟩; refine ⟨_, rfl, ?_⟩) | (go_at_call 57; (with_reducible refine (impl_in.calls (l0_2.length : Int) 1 4 false _ A7.out).mono ?_); rintro e w' ⟨rfl, ⟨nd, rfl⟩⟩))
       go_ret
       exact ⟨pE, pB⟩
 · replace c3 := Bool.eq_false_iff.mpr c3
   subst c3
   have H1 : (some 3) = some r := by rw [if_neg (show ¬ (false = true) by decide)] at H; exact H
   clear H; have H := H1; clear H1
   obtain rfl := sj H
   go_enter Try.func16, Try.ntmps16
   go_wp2_with (first | ((with_reducible refine gate_dst (N := 1) rfl ?_); (try (refine gate_guard (by rfl) ?_; dsimp only)); refine box_event ?hg (N := 1) ?hd (cs := #[.int .i64 a0_0, .slice A0_1 l0_1.length c0_1, .slice A0_2 l0_2.length c0_2]) (t := 27) ?hr ?_; (case hd => rfl); (case hg => rfl); (case hr => first | (go_simp; done) | (go_simp; rfl)); intro gb434 hg w58 hbox hb; have n_ := t4 (bz_ pB hb) (hbox) ((by rw [hg]; exact (bs_ pB) : w.heap.size ≤ gb434)) ((by rw [hg]; exact (bs_ pB) : w.heap.size ≤ gb434)); clear HB; obtain ⟨HB, BK434, GW434, GE434⟩ := n_; clear hb hbox hg; have hcz59_0 : w58.cell? ⟨gb434, 0, none⟩ = some (.int .i64 a0_0) := (blk_cell BK434.out 0).trans rfl; have hcz59_1 : w58.cell? ⟨gb434, 1, none⟩ = some (.slice A0_1 l0_1.length c0_1) := (blk_cell BK434.out 1).trans rfl; have hcz59_2 : w58.cell? ⟨gb434, 2, none⟩ = some (.slice A0_2 l0_2.length c0_2) := (blk_cell BK434.out 2).trans rfl; have hfz59_0 := blk_frozen BK434.out 0; have hfz59_1 := blk_frozen BK434.out 1; have hfz59_2 := blk_frozen BK434.out 2) | ((with_reducible refine gC (f := 57) rfl ?_); refine goesL_ (some 12) rfl rfl Try.func57 (by kernel_rfl) rfl #[.int .i64 a0_0, .int .i64 0, .int .i64 65535] rfl pA ?_; (with_reducible refine (impl_in.calls a0_0 0 65535 false _ A2.out).mono ?_); rintro e w' ⟨rfl, ⟨nd, rfl⟩⟩; refine ⟨_, rfl, ?_⟩))
   go_ret
   exact ⟨pE, pB⟩
def impl_bitsOk.f (a0 : Int) : Option (Bool) := (impl_in.f a0 1 1023).bind fun t450 => (if t450 = true then (some (decide ((Int.tmod a0 256) > 0))) else (some false))
theorem impl_bitsOk.calls (a0 : Int) (r : Bool) (w : World) (h : impl_bitsOk.f a0 = some r) :
 Calls Try.prog 92 #[.int .i64 a0] w fun e w' => e = .returned (.bool r) ∧ Drawn0 w w' := by
 have H : ((impl_in.f a0 1 1023).bind fun t450 => (if t450 = true then (some (decide ((Int.tmod a0 256) > 0))) else (some false))) = some r := h
 clear h
 obtain ⟨t450, A20, H⟩ := bO H
 replace H : (if t450 = true then (some (decide ((Int.tmod a0 256) > 0))) else (some false)) = some r := H
 have A2 := am A20; clear A20
 by_cases c3 : t450 = true
 · subst c3
   have H1 : (some (decide ((Int.tmod a0 256) > 0))) = some r := by rw [if_pos rfl] at H; exact H
   clear H; have H := H1; clear H1
   obtain rfl := sj H
   go_enter Try.func92, Try.ntmps92
   go_wp2_with (first | ((with_reducible refine gC (f := 57) rfl ?_); refine goesL_ (some 4) rfl rfl Try.func57 (by kernel_rfl) rfl #[.int .i64 a0, .int .i64 1, .int .i64 1023] rfl pA ?_; (with_reducible refine (impl_in.calls a0 1 1023 true _ A2.out).mono ?_); rintro e w' ⟨rfl, ⟨nd, rfl⟩⟩; refine ⟨_, rfl, ?_⟩))
   go_ret
   exact ⟨by first | rfl | (simp; done) | (simp [*]; done), pW⟩
 · replace c3 := Bool.eq_false_iff.mpr c3
   subst c3
   have H1 : (some false) = some r := by rw [if_neg (show ¬ (false = true) by decide)] at H; exact H
   clear H; have H := H1; clear H1
   obtain rfl := sj H
   go_enter Try.func92, Try.ntmps92
   go_wp2_with (first | ((with_reducible refine gC (f := 57) rfl ?_); refine goesL_ (some 4) rfl rfl Try.func57 (by kernel_rfl) rfl #[.int .i64 a0, .int .i64 1, .int .i64 1023] rfl pA ?_; (with_reducible refine (impl_in.calls a0 1 1023 false _ A2.out).mono ?_); rintro e w' ⟨rfl, ⟨nd, rfl⟩⟩; refine ⟨_, rfl, ?_⟩))
   go_ret
   exact ⟨by first | rfl | (simp; done) | (simp [*]; done), pW⟩
def impl_isBase.f (a0_0 : Int) (l0_1 : List (S34)) (l0_2 : List (S86)) : Option (Bool) := some ((l0_1.length : Int) == 0)
theorem impl_isBase.calls (a0_0 : Int) (A0_1 : Option Addr) (c0_1 : Nat) (l0_1 : List (S34)) (A0_2 : Option Addr) (c0_2 : Nat) (l0_2 : List (S86)) (r : Bool) (w : World) (hr0_1 : Kd.C k34 w A0_1 l0_1.length l0_1) (hc0_1 : l0_1.length ≤ c0_1) (hr0_2 : Kd.C k86 w A0_2 l0_2.length l0_2) (hc0_2 : l0_2.length ≤ c0_2) (h : impl_isBase.f a0_0 l0_1 l0_2 = some r) :
 Calls Try.prog 93 #[.agg #[.int .i64 a0_0, .slice A0_1 l0_1.length c0_1, .slice A0_2 l0_2.length c0_2]] w fun e w' => e = .returned (.bool r) ∧ Below w.heap.size w w' := by
 have hu27 := Try.underlying27
 have HR0_1 := am hr0_1; have HC0_1 := am hc0_1; clear hr0_1 hc0_1; have HR0_2 := am hr0_2; have HC0_2 := am hc0_2; clear hr0_2 hc0_2
 have HB := am (Below.refl w.heap.size w)
 have H : (some ((l0_1.length : Int) == 0)) = some r := h
 clear h
 obtain rfl := sj H
 go_enter Try.func93, Try.ntmps93
 go_wp2_with (first | ((with_reducible refine gate_dst (N := 1) rfl ?_); refine box_event ?hg (N := 1) ?hd (cs := #[.int .i64 a0_0, .slice A0_1 l0_1.length c0_1, .slice A0_2 l0_2.length c0_2]) (t := 27) ?hr ?_; (case hd => rfl); (case hg => rfl); (case hr => first | (go_simp; done) | (go_simp; rfl)); intro gb451 hg w2 hbox hb; have n_ := t4 (bz_ pB hb) (hbox) ((by rw [hg]; exact (bs_ pB) : w.heap.size ≤ gb451)) ((by rw [hg]; exact (bs_ pB) : w.heap.size ≤ gb451)); clear HB; obtain ⟨HB, BK451, GW451, GE451⟩ := n_; clear hb hbox hg; have hcz3_0 : w2.cell? ⟨gb451, 0, none⟩ = some (.int .i64 a0_0) := (blk_cell BK451.out 0).trans rfl; have hcz3_1 : w2.cell? ⟨gb451, 1, none⟩ = some (.slice A0_1 l0_1.length c0_1) := (blk_cell BK451.out 1).trans rfl; have hcz3_2 : w2.cell? ⟨gb451, 2, none⟩ = some (.slice A0_2 l0_2.length c0_2) := (blk_cell BK451.out 2).trans rfl; have hfz3_0 := blk_frozen BK451.out 0; have hfz3_1 := blk_frozen BK451.out 1; have hfz3_2 := blk_frozen BK451.out 2))
 go_ret
 exact ⟨pE, pB⟩
def impl_sumsFault_1.f (a0 : Int) : Option (Bool) := (impl_isSum.f a0).bind fun t452 => (some (!t452))
theorem impl_sumsFault_1.calls (a0 : Int) (r : Bool) (w : World) (h : impl_sumsFault_1.f a0 = some r) :
 Calls Try.prog 158 #[.int .i64 a0] w fun e w' => e = .returned (.bool r) ∧ Drawn0 w w' := by
 have H : ((impl_isSum.f a0).bind fun t452 => (some (!t452))) = some r := h
 clear h
 obtain ⟨t452, A20, H⟩ := bO H
 replace H : (some (!t452)) = some r := H
 have A2 := am A20; clear A20
 obtain rfl := sj H
 go_enter Try.func158, Try.ntmps158
 go_wp2_with (first | ((with_reducible refine gC (f := 91) rfl ?_); refine goesL_ (some 4) rfl rfl Try.func91 (by kernel_rfl) rfl #[.int .i64 a0] rfl pA ?_; (with_reducible refine (impl_isSum.calls a0 t452 _ A2.out).mono ?_); rintro e w' ⟨rfl, ⟨nd, rfl⟩⟩; refine ⟨_, rfl, ?_⟩))
 go_ret
 exact ⟨by first | rfl | (simp; done) | (simp [*]; done), pW⟩
end Go.Proofs.Ythjlbpgiaehjnaa.QFnExactBlockRoot
