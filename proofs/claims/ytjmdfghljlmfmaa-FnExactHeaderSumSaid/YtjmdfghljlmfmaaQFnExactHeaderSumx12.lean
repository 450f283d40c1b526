-- written by this session's program (wip/tools/myprint.py)
import Derived.Test.YtjmdfghljlmfmaaQFnExactHeaderSumx0
import Derived.Test.YtjmdfghljlmfmaaQFnExactHeaderSumx10
import Derived.Test.YtjmdfghljlmfmaaQFnExactHeaderSumx11
-- squeezed
namespace Go.Proofs.Ytjmdfghljlmfmaa.QFnExactHeaderSum
open Go.RowKit Go.Proofs.YtjmdfghljlmfmaaW.PrintWords Go.Proofs.YtjmdfghljlmfmaaW.PrintLast Go.Proofs.YtjmdfghljlmfmaaW.PrintMore
attribute [local go_sem] max2_int min2_int max_two min_two max_three min_three max_four min_four   -- for this text's walks alone
set_option linter.unusedVariables false
set_option linter.unusedSimpArgs false
set_option maxHeartbeats 8000000
set_option maxRecDepth 100000
mutual
def impl_TxFault.l0 : Nat → List (S77) → Int → Int → Int → List (S77) → List (S80) → Option (Int)
 | 0, _, _, _, _, _, _ => none
 | k + 1, x27, x28, x29, x416000, x416001, x416002 => if x29 < x28 then (if 0 ≤ x29 then (if x29 < (x27.length : Int) then (if x29 ≤ (x416001.length : Int) then ((impl_inFault.f k ((rd_T77 x27 x29).f0) ((rd_T77 x27 x29).f1) ((rd_T77 x27 x29).f2) (x416001.take (x29 : Int).toNat)).bind fun t424 => (if t424 = 0 then (impl_TxFault.l0 k x27 x28 (wrap64 (x29 + 1)) x416000 x416001 x416002) else (some t424))) else (none)) else (none)) else (none)) else (impl_TxFault.l1 k x416002 (x416002.length : Int) 0 x416000 x416001 x416002)
def impl_TxFault.l1 : Nat → List (S80) → Int → Int → Int → List (S77) → List (S80) → Option (Int)
 | 0, _, _, _, _, _, _ => none
 | k + 1, x45, x46, x47, x416000, x416001, x416002 => if x47 < x46 then (if 0 ≤ x47 then (if x47 < (x45.length : Int) then ((impl_isAmount.f ((rd_T80 x45 x47).f0)).bind fun t427 => (if t427 = true then ((impl_ProgramFault.f k ((rd_T80 x45 x47).f1)).bind fun t428 => (if t428 = 0 then (impl_TxFault.l1 k x45 x46 (wrap64 (x47 + 1)) x416000 x416001 x416002) else (some t428))) else (some 3))) else (none)) else (none)) else ((impl_outSum.f k x416002).bind fun t429 => ((impl_isAmount.f t429).bind fun t430 => (if t430 = true then (some 0) else (some 7))))
end
def impl_TxFault.f (k : Nat) (a0_0 : Int) (l0_1 : List (S77)) (l0_2 : List (S80)) : Option (Int) := (impl_in.f a0_0 0 65535).bind fun t416 => (if t416 = true then (if (l0_1.length : Int) > 4 then (some 2) else ((impl_in.f (l0_2.length : Int) 1 4).bind fun t417 => (if t417 = true then (impl_TxFault.l0 k l0_1 (l0_1.length : Int) 0 a0_0 l0_1 l0_2) else (some 2)))) else (some 3))
theorem impl_TxFault.mono_l : ∀ k, (∀ y0 y1 y2 y3 y4 y5, LeO (impl_TxFault.l0 k y0 y1 y2 y3 y4 y5) (impl_TxFault.l0 (k + 1) y0 y1 y2 y3 y4 y5)) ∧ (∀ y0 y1 y2 y3 y4 y5, LeO (impl_TxFault.l1 k y0 y1 y2 y3 y4 y5) (impl_TxFault.l1 (k + 1) y0 y1 y2 y3 y4 y5))
 | 0 => ⟨fun _ _ _ _ _ _ r h => by simp [impl_TxFault.l0] at h, fun _ _ _ _ _ _ r h => by simp [impl_TxFault.l1] at h⟩
 | k + 1 => by
  obtain ⟨ih0, ih1⟩ := impl_TxFault.mono_l k
  refine ⟨?_, ?_⟩
  · intro y0 y1 y2 y3 y4 y5
    unfold impl_TxFault.l0
    repeat' with_reducible first | exact ih0 _ _ _ _ _ _ | exact ih1 _ _ _ _ _ _ | exact impl_ProgramFault.mono _ _ | exact impl_inFault.mono _ _ _ _ _ | exact impl_outSum.mono _ _ | exact LeO.refl _ | exact LeO.none _ | refine LeO.ite ?_ ?_ | refine LeO.bind ?_ (fun _ => ?_)
  · intro y0 y1 y2 y3 y4 y5
    unfold impl_TxFault.l1
    repeat' with_reducible first | exact ih0 _ _ _ _ _ _ | exact ih1 _ _ _ _ _ _ | exact impl_ProgramFault.mono _ _ | exact impl_inFault.mono _ _ _ _ _ | exact impl_outSum.mono _ _ | exact LeO.refl _ | exact LeO.none _ | refine LeO.ite ?_ ?_ | refine LeO.bind ?_ (fun _ => ?_)
theorem impl_TxFault.mono : ∀ a0 a1 a2 k, LeO (impl_TxFault.f k a0 a1 a2) (impl_TxFault.f (k + 1) a0 a1 a2) := by
 intro a0 a1 a2 k
 obtain ⟨ih0, ih1⟩ := impl_TxFault.mono_l k
 unfold impl_TxFault.f
 repeat' with_reducible first | exact ih0 _ _ _ _ _ _ | exact ih1 _ _ _ _ _ _ | exact impl_ProgramFault.mono _ _ | exact impl_inFault.mono _ _ _ _ _ | exact impl_outSum.mono _ _ | exact LeO.refl _ | exact LeO.none _ | refine LeO.ite ?_ ?_ | refine LeO.bind ?_ (fun _ => ?_)
theorem impl_TxFault.calls (k : Nat) (a0_0 : Int) (A0_1 : Option Addr) (c0_1 : Nat) (l0_1 : List (S77)) (A0_2 : Option Addr) (c0_2 : Nat) (l0_2 : List (S80)) (r : Int) (w : World) (hr0_1 : Kd.C k77 w A0_1 l0_1.length l0_1) (hc0_1 : l0_1.length ≤ c0_1) (hr0_2 : Kd.C k80 w A0_2 l0_2.length l0_2) (hc0_2 : l0_2.length ≤ c0_2) (h : impl_TxFault.f k a0_0 l0_1 l0_2 = some r) :
 Calls Try.prog 31 #[.agg #[.int .i64 a0_0, .slice A0_1 l0_1.length c0_1, .slice A0_2 l0_2.length c0_2]] w fun e w' => e = .returned (.int .i64 r) ∧ Below w.heap.size w w' := by
 have hu54 := Try.underlying54
 have hu77 := Try.underlying77
 have hu80 := Try.underlying80
 have HR0_1 := am hr0_1; have HC0_1 := am hc0_1; clear hr0_1 hc0_1; have HR0_2 := am hr0_2; have HC0_2 := am hc0_2; clear hr0_2 hc0_2
 have HB := am (Below.refl w.heap.size w)
 have H : ((impl_in.f a0_0 0 65535).bind fun t416 => (if t416 = true then (if (l0_1.length : Int) > 4 then (some 2) else ((impl_in.f (l0_2.length : Int) 1 4).bind fun t417 => (if t417 = true then (impl_TxFault.l0 k l0_1 (l0_1.length : Int) 0 a0_0 l0_1 l0_2) else (some 2)))) else (some 3))) = some r := h
 clear h
 obtain ⟨t416, A20, H⟩ := bO H
 replace H : (if t416 = true then (if (l0_1.length : Int) > 4 then (some 2) else ((impl_in.f (l0_2.length : Int) 1 4).bind fun t417 => (if t417 = true then (impl_TxFault.l0 k l0_1 (l0_1.length : Int) 0 a0_0 l0_1 l0_2) else (some 2)))) else (some 3)) = some r := H
 have A2 := am A20; clear A20
 by_cases c3 : t416 = true
 · subst c3
   have H1 : (if (l0_1.length : Int) > 4 then (some 2) else ((impl_in.f (l0_2.length : Int) 1 4).bind fun t417 => (if t417 = true then (impl_TxFault.l0 k l0_1 (l0_1.length : Int) 0 a0_0 l0_1 l0_2) else (some 2)))) = some r := by rw [if_pos rfl] at H; exact H
   clear H; have H := H1; clear H1
   by_cases c4 : (l0_1.length : Int) > 4
   · rw [if_pos c4] at H
     have c4b0 : decide (4 < (l0_1.length : Int)) = true := dt c4
     have c4b1 : decide (4 < l0_1.length) = true := dt (by omega)
     clear c4
     obtain rfl := sj H
     go_enter Try.func31, Try.ntmps31
     go_wp2_with (first | ((with_reducible refine gate_dst (N := 1) rfl ?_); (try (refine gate_guard (by rfl) ?_; dsimp only)); refine box_event ?hg (N := 1) ?hd (cs := #[.int .i64 a0_0, .slice A0_1 l0_1.length c0_1, .slice A0_2 l0_2.length c0_2]) (t := 54) ?hr ?_; (case hd => rfl); (case hg => rfl); (case hr => first | (go_simp; done) | (go_simp; rfl)); intro gb415 hg w5 hbox hb; have n_ := t4 (bz_ pB hb) (hbox) ((by rw [hg]; exact (bs_ pB) : w.heap.size ≤ gb415)) ((by rw [hg]; exact (bs_ pB) : w.heap.size ≤ gb415)); clear HB; obtain ⟨HB, BK415, GW415, GE415⟩ := n_; clear hb hbox hg; have hcz6_0 : w5.cell? ⟨gb415, 0, none⟩ = some (.int .i64 a0_0) := (blk_cell BK415.out 0).trans rfl; have hcz6_1 : w5.cell? ⟨gb415, 1, none⟩ = some (.slice A0_1 l0_1.length c0_1) := (blk_cell BK415.out 1).trans rfl; have hcz6_2 : w5.cell? ⟨gb415, 2, none⟩ = some (.slice A0_2 l0_2.length c0_2) := (blk_cell BK415.out 2).trans rfl; have hfz6_0 := blk_frozen BK415.out 0; have hfz6_1 := blk_frozen BK415.out 1; have hfz6_2 := blk_frozen BK415.out 2) | ((with_reducible refine gC (f := 29) rfl ?_); refine goesL_ (some 12) rfl rfl Try.func29 (by kernel_rfl) rfl #[.int .i64 a0_0, .int .i64 0, .int .i64 65535] rfl pA ?_; (with_reducible refine (impl_in.calls a0_0 0 65535 true _ A2.out).mono ?_); rintro e w' ⟨rfl, ⟨nd, rfl⟩⟩; refine ⟨_, rfl, ?_⟩))
     go_ret
     exact ⟨pE, pB⟩
   · rw [if_neg c4] at H
     have c4b0 : decide (4 < (l0_1.length : Int)) = false := decide_eq_false c4
     have c4b1 : decide (4 < l0_1.length) = false := decide_eq_false (by omega)
     clear c4
     obtain ⟨t417, A70, H⟩ := bO H
     replace H : (if t417 = true then (impl_TxFault.l0 k l0_1 (l0_1.length : Int) 0 a0_0 l0_1 l0_2) else (some 2)) = some r := H
     have A7 := am A70; clear A70
     by_cases c8 : t417 = true
     · subst c8
       have H1 : (impl_TxFault.l0 k l0_1 (l0_1.length : Int) 0 a0_0 l0_1 l0_2) = some r := by rw [if_pos rfl] at H; exact H
       clear H; have H := H1; clear H1
       have H' := am H
       clear H
       go_enter Try.func31, Try.ntmps31
       go_wp2_with (first | ((with_reducible refine gate_dst (N := 1) rfl ?_); (try (refine gate_guard (by rfl) ?_; dsimp only)); refine box_event ?hg (N := 1) ?hd (cs := #[.int .i64 a0_0, .slice A0_1 l0_1.length c0_1, .slice A0_2 l0_2.length c0_2]) (t := 54) ?hr ?_; (case hd => rfl); (case hg => rfl); (case hr => first | (go_simp; done) | (go_simp; rfl)); intro gb415 hg w9 hbox hb; have n_ := t4 (bz_ pB hb) (hbox) ((by rw [hg]; exact (bs_ pB) : w.heap.size ≤ gb415)) ((by rw [hg]; exact (bs_ pB) : w.heap.size ≤ gb415)); clear HB; obtain ⟨HB, BK415, GW415, GE415⟩ := n_; clear hb hbox hg; have hcz10_0 : w9.cell? ⟨gb415, 0, none⟩ = some (.int .i64 a0_0) := (blk_cell BK415.out 0).trans rfl; have hcz10_1 : w9.cell? ⟨gb415, 1, none⟩ = some (.slice A0_1 l0_1.length c0_1) := (blk_cell BK415.out 1).trans rfl; have hcz10_2 : w9.cell? ⟨gb415, 2, none⟩ = some (.slice A0_2 l0_2.length c0_2) := (blk_cell BK415.out 2).trans rfl; have hfz10_0 := blk_frozen BK415.out 0; have hfz10_1 := blk_frozen BK415.out 1; have hfz10_2 := blk_frozen BK415.out 2) | ((with_reducible refine gC (f := 29) rfl ?_); refine goesL_ (some 12) rfl rfl Try.func29 (by kernel_rfl) rfl #[.int .i64 a0_0, .int .i64 0, .int .i64 65535] rfl pA ?_; (with_reducible refine (impl_in.calls a0_0 0 65535 true _ A2.out).mono ?_); rintro e w' ⟨rfl, ⟨nd, rfl⟩⟩; refine ⟨_, rfl, ?_⟩) | (go_at_call 29; (with_reducible refine (impl_in.calls (l0_2.length : Int) 1 4 true _ A7.out).mono ?_); rintro e w' ⟨rfl, ⟨nd, rfl⟩⟩))
       go_loopg [29] k (fun kq v29 w' => ∃ (x29_1 : Int), v29 = .int .i64 x29_1 ∧ Aside0 (impl_TxFault.l0 kq l0_1 (l0_1.length : Int) x29_1 a0_0 l0_1 l0_2 = some r) ∧ Aside0 (kq ≤ k) ∧ Aside0 (w'.heap[gb415]? = some (.cells #[.int .i64 a0_0, (.slice A0_1 l0_1.length c0_1), (.slice A0_2 l0_2.length c0_2)] 54 (0, 0))) ∧ Aside0 (Below w.heap.size w w'))
       case atStart => exact ⟨(0), pF, H', ⟨Nat.le_refl _⟩, ⟨(pK BK415)⟩, ⟨pB⟩⟩
       case round =>
        clear H'
        (try clear c3); (try clear c4); (try clear c4b0); (try clear c4b1); (try clear c8); (try clear hcz10_0); (try clear hcz10_1); (try clear hcz10_2); (try clear hfz10_0); (try clear hfz10_1); (try clear hfz10_2)
        obtain ⟨x29_1, rfl, HA, HK1, BK415, HB⟩ := hrel
        cases gk with
        | zero => exact absurd HA.out (by simp [impl_TxFault.l0])
        | succ k1 =>
         have H := HA.out
         clear HA
         simp only [impl_TxFault.l0] at H
         by_cases c11 : x29_1 < (l0_1.length : Int)
         · rw [if_pos c11] at H
           have c11b0 : decide (x29_1 < (l0_1.length : Int)) = true := dt c11
           clear c11
           by_cases c12 : 0 ≤ x29_1
           · rw [if_pos c12] at H
             have c12b0 : decide (0 ≤ x29_1) = true := dt c12
             clear c12
             by_cases c13 : x29_1 < (l0_1.length : Int)
             · rw [if_pos c13] at H
               have c13b0 : decide (x29_1 < (l0_1.length : Int)) = true := dt c13
               clear c13
               have c14b0 := eq_true (pD : 0 ≤ x29_1)
               by_cases c15 : x29_1 ≤ (l0_1.length : Int)
               · rw [if_pos c15] at H
                 have c15b0 := eq_true c15
                 have c15b1 : decide (x29_1 ≤ (l0_1.length : Int)) = true := dt c15
                 clear c15
                 obtain ⟨y420, hy420⟩ : ∃ y_ : List (S77), y_ = (l0_1.take (x29_1 : Int).toNat) := ⟨_, rfl⟩
                 replace H : ((impl_inFault.f k1 ((rd_T77 l0_1 x29_1).f0) ((rd_T77 l0_1 x29_1).f1) ((rd_T77 l0_1 x29_1).f2) y420).bind fun t424 => (if t424 = 0 then (impl_TxFault.l0 k1 l0_1 (l0_1.length : Int) (wrap64 (x29_1 + 1)) a0_0 l0_1 l0_2) else (some t424))) = some r := by first | (rw [hy420]; with_reducible exact H) | (have H2_ := (Option.bind_some _ _).symm.trans H; rw [hy420]; with_reducible exact H2_) | (have H2_ := (Option.bind_some _ _).symm.trans H; with_reducible exact H2_) | with_reducible exact H | (rw [hy420]; exact H) | exact H
                 have Ny420 := am hy420; clear hy420
                 obtain ⟨t424, A160, H⟩ := bO H
                 replace H : (if t424 = 0 then (impl_TxFault.l0 k1 l0_1 (l0_1.length : Int) (wrap64 (x29_1 + 1)) a0_0 l0_1 l0_2) else (some t424)) = some r := H
                 have A16 := am A160; clear A160
                 by_cases c17 : t424 = 0
                 · rw [if_pos c17] at H
                   have c17b0 : (t424 == 0) = true := beq_iff_eq.mpr c17
                   have c17b1 : (t424 != 0) = false := bne_eq_false_iff_eq.mpr c17
                   clear c17
                   have H' := am H
                   clear H
                   have p418 : 0 ≤ (x29_1 : Int) := pD
                   have q418 : x29_1 < (l0_1.length : Int) := pD
                   obtain ⟨ad418, A418_2, c418_2, e418, hx418_0, hx418_1, hx418_2, hl418_2, hi418_2⟩ := at_T77 HR0_1.out x29_1 p418 q418
                   cases e418; replace hx418_0 := cb HB hx418_0; replace hx418_1 := cb HB hx418_1; replace hx418_2 := cb HB hx418_2; have HR418_2 := am hi418_2; have HC418_2 := am hl418_2; clear hi418_2 hl418_2; replace p418 := eq_true p418; replace q418 := eq_true q418
                   try go_wp2_with (first | ((with_reducible refine gate_dst (N := 4) rfl ?_); (try (refine gate_guard (by rfl) ?_; dsimp only)); refine box_event ?hg (N := 4) ?hd (cs := #[.int .i64 0, .int .i64 0, .slice none 0 0]) (t := 77) ?hr ?_; (case hd => rfl); (case hg => rfl); (case hr => first | (go_simp; done) | (go_simp; rfl)); intro gb419 hg w18 hbox hb; have n_ := t7 (blk_below (g := gb415) (o := .cells #[.int .i64 a0_0, .slice (some ad418) l0_1.length c0_1, .slice A0_2 l0_2.length c0_2] 54 (0, 0)) (pK BK415) hb) (bz_ pB hb) (hbox) ((by rw [hg]; exact (bs_ pB) : w.heap.size ≤ gb419)) ((by rw [hg]; exact (bs_ pB) : w.heap.size ≤ gb419)) ((by rw [hg]; exact Nat.ne_of_lt (blk_lt (g := gb415) (o := .cells #[.int .i64 a0_0, .slice (some ad418) l0_1.length c0_1, .slice A0_2 l0_2.length c0_2] 54 (0, 0)) (pK BK415)) : gb415 ≠ gb419)) ((by rw [hg]; exact Nat.ne_of_gt (blk_lt (g := gb415) (o := .cells #[.int .i64 a0_0, .slice (some ad418) l0_1.length c0_1, .slice A0_2 l0_2.length c0_2] 54 (0, 0)) (pK BK415)) : gb419 ≠ gb415)); clear BK415 HB; obtain ⟨BK415, HB, BK419, GW419, GE419, NB415_419, NB419_415⟩ := n_; clear hb hbox hg; have hnb19 := NB419_415.out; have hnc19 := NB415_419.out; have hcz20_0 : w18.cell? ⟨gb419, 0, none⟩ = some (.int .i64 0) := (blk_cell BK419.out 0).trans rfl; have hcz20_1 : w18.cell? ⟨gb419, 1, none⟩ = some (.int .i64 0) := (blk_cell BK419.out 1).trans rfl; have hcz20_2 : w18.cell? ⟨gb419, 2, none⟩ = some (.slice none 0 0) := (blk_cell BK419.out 2).trans rfl; have hfz20_0 := blk_frozen BK419.out 0; have hfz20_1 := blk_frozen BK419.out 1; have hfz20_2 := blk_frozen BK419.out 2))
                   have n0_ : Aside0 ((((w18.setCell ⟨gb419, 0, none⟩ (.int .i64 ((rd_T77 l0_1 x29_1).f0))).setCell ⟨gb419, 1, none⟩ (.int .i64 ((rd_T77 l0_1 x29_1).f1))).setCell ⟨gb419, 2, none⟩ (.slice A418_2 ((rd_T77 l0_1 x29_1).f2).length c418_2)).heap[gb415]? = some (.cells #[.int .i64 a0_0, .slice (some ad418) l0_1.length c0_1, .slice A0_2 l0_2.length c0_2] 54 (0, 0))) := ⟨by (with_reducible repeat (first | refine blk_drewN ?_ _ | refine blk_drew ?_ | refine blk_alloc ?_ _)); refine blk_far ?_ NB415_419.out _; (with_reducible repeat (first | refine blk_drewN ?_ _ | refine blk_drew ?_ | refine blk_alloc ?_ _)); refine blk_far ?_ NB415_419.out _; (with_reducible repeat (first | refine blk_drewN ?_ _ | refine blk_drew ?_ | refine blk_alloc ?_ _)); refine blk_far ?_ NB415_419.out _; (with_reducible repeat (first | refine blk_drewN ?_ _ | refine blk_drew ?_ | refine blk_alloc ?_ _)); exact BK415.out⟩
                   have n1_ : Aside0 ((((w18.setCell ⟨gb419, 0, none⟩ (.int .i64 ((rd_T77 l0_1 x29_1).f0))).setCell ⟨gb419, 1, none⟩ (.int .i64 ((rd_T77 l0_1 x29_1).f1))).setCell ⟨gb419, 2, none⟩ (.slice A418_2 ((rd_T77 l0_1 x29_1).f2).length c418_2)).heap[gb419]? = some (.cells #[.int .i64 ((rd_T77 l0_1 x29_1).f0), .int .i64 ((rd_T77 l0_1 x29_1).f1), .slice A418_2 ((rd_T77 l0_1 x29_1).f2).length c418_2] 77 (0, 0))) := ⟨by (with_reducible repeat (first | refine blk_drewN ?_ _ | refine blk_drew ?_ | refine blk_alloc ?_ _)); refine blk_put (cs := #[.int .i64 ((rd_T77 l0_1 x29_1).f0), .int .i64 ((rd_T77 l0_1 x29_1).f1), .slice none 0 0]) ?_ 2 _ rfl; (with_reducible repeat (first | refine blk_drewN ?_ _ | refine blk_drew ?_ | refine blk_alloc ?_ _)); refine blk_put (cs := #[.int .i64 ((rd_T77 l0_1 x29_1).f0), .int .i64 0, .slice none 0 0]) ?_ 1 _ rfl; (with_reducible repeat (first | refine blk_drewN ?_ _ | refine blk_drew ?_ | refine blk_alloc ?_ _)); refine blk_put (cs := #[.int .i64 0, .int .i64 0, .slice none 0 0]) ?_ 0 _ rfl; (with_reducible repeat (first | refine blk_drewN ?_ _ | refine blk_drew ?_ | refine blk_alloc ?_ _)); exact BK419.out⟩
                   have n2_ : Aside0 (Below w.heap.size w (((w18.setCell ⟨gb419, 0, none⟩ (.int .i64 ((rd_T77 l0_1 x29_1).f0))).setCell ⟨gb419, 1, none⟩ (.int .i64 ((rd_T77 l0_1 x29_1).f1))).setCell ⟨gb419, 2, none⟩ (.slice A418_2 ((rd_T77 l0_1 x29_1).f2).length c418_2))) := ⟨pB⟩
                   (try clear BK415); (try clear BK419); (try clear HB)
                   generalize (((w18.setCell ⟨gb419, 0, none⟩ (.int .i64 ((rd_T77 l0_1 x29_1).f0))).setCell ⟨gb419, 1, none⟩ (.int .i64 ((rd_T77 l0_1 x29_1).f1))).setCell ⟨gb419, 2, none⟩ (.slice A418_2 ((rd_T77 l0_1 x29_1).f2).length c418_2)) = w21 at n0_ n1_ n2_ ⊢
                   have BK415 := n0_
                   have BK419 := n1_
                   have HB := n2_
                   clear n0_ n1_ n2_
                   have n_ := t3 (blk_drew BK415.out) (blk_drew BK419.out) (below_drew1 HB.out)
                   clear BK415 BK419 HB; obtain ⟨BK415, BK419, HB⟩ := n_
                   have q23 : (x29_1 : Int) ≤ ((l0_1.length : Int) : Int) := pD
                   obtain ⟨i023, hi023, _, hsz23, _⟩ := info_parts info77
                   have hroom23 : l0_1.length ≤ c0_1 := HC0_1.out
                   have hC23 : Kd.C k77 _ (some ad418) l0_1.length l0_1 := HR0_1.out
                   have hcut23 := cut_to (P := Try.prog) 51 77 .i64 Try.underlying51 hi023 (some ad418) l0_1.length c0_1 x29_1 (pD) q23 hroom23
                   have hr23 := Kd.C_take (m := (x29_1 : Int).toNat) hC23 (by omega)
                   have hy23 : y420.length = (x29_1 : Int).toNat := (by rw [Ny420.out, List.length_take]; omega)
                   rw [← Ny420.out] at hr23
                   rw [← hy23] at hcut23
                   have HR423 := am hr23
                   have HC423 := am (show y420.length ≤ c0_1 from by omega)
                   clear hr23 hC23 hroom23 hi023 hsz23; have KY23 := am hy23; clear hy23; replace q23 := eq_true q23
                   refine start_ (n := 7) (S := fun w' => w'.cell? ⟨gb419, 0, none⟩ = some (.int .i64 ((rd_T77 l0_1 x29_1).f0)) ∧ w'.cell? ⟨gb419, 1, none⟩ = some (.int .i64 ((rd_T77 l0_1 x29_1).f1)) ∧ w'.cell? ⟨gb419, 2, none⟩ = some (.slice A418_2 ((rd_T77 l0_1 x29_1).f2).length c418_2) ∧ w'.cell? ⟨gb415, 0, none⟩ = some (.int .i64 a0_0) ∧ w'.cell? ⟨gb415, 1, none⟩ = some (.slice (some ad418) l0_1.length c0_1) ∧ w'.cell? ⟨gb415, 2, none⟩ = some (.slice A0_2 l0_2.length c0_2)) (ds := []) #[false, false, false, false, false, false, false] (by kernel_rfl) rfl rfl ⟨(blk_cell BK419.out 0).trans rfl, (blk_cell BK419.out 1).trans rfl, (blk_cell BK419.out 2).trans rfl, (blk_cell BK415.out 0).trans rfl, (blk_cell BK415.out 1).trans rfl, (blk_cell BK415.out 2).trans rfl⟩ (fun hHeld => ?_)
                   generalize w21.drew = w22 at BK415 BK419 HB HR423 hHeld ⊢
                   refine rP 1 (some 35) #[false, true, false, false, false, false, false] (by kernel_rfl) ?_
                   refine rP 3 (some 37) #[false, true, false, true, false, false, false] (by kernel_rfl) ?_
                   refine rT 0 (some 34) #[true, true, false, true, false, false, false] (by kernel_rfl) hHeld ?_
                   refine rT 2 (some 36) #[true, true, true, true, false, false, false] (by kernel_rfl) hHeld ?_
                   refine rP 4 (some 38) #[true, true, true, true, true, false, false] (by kernel_rfl) ?_
                   refine one_ (i := 5) (N := some 39) #[true, true, true, true, true, true, false] rfl rfl (by kernel_rfl) (by decide) (fun K hK => ?_)
                   refine goes_ Try.func48 (by kernel_rfl) rfl #[.agg #[.int .i64 ((rd_T77 l0_1 x29_1).f0), .int .i64 ((rd_T77 l0_1 x29_1).f1), .slice A418_2 ((rd_T77 l0_1 x29_1).f2).length c418_2], .slice (some ad418) y420.length c0_1] (by rfl) rfl rfl pA ?_
                   with_reducible refine (impl_inFault.calls k1 ((rd_T77 l0_1 x29_1).f0) ((rd_T77 l0_1 x29_1).f1) _ _ ((rd_T77 l0_1 x29_1).f2) _ _ y420 t424 _ ?side1 ?side2 ?side3 ?side4 A16.out).mono ?_
                   (case side1 => exact pC (Kd.C_below HR418_2.out HB.out))
                   (case side2 => exact HC418_2.out)
                   (case side3 => exact pC (Kd.C_below HR423.out HB.out))
                   (case side4 => exact HC423.out)
                   rintro e w24 ⟨rfl, hb⟩
                   refine ⟨_, rfl, ?_⟩
                   have n_ := t3 (blk_below (g := gb415) (o := .cells #[.int .i64 a0_0, .slice (some ad418) l0_1.length c0_1, .slice A0_2 l0_2.length c0_2] 54 (0, 0)) (pK BK415) hb) (blk_below (g := gb419) (o := .cells #[.int .i64 ((rd_T77 l0_1 x29_1).f0), .int .i64 ((rd_T77 l0_1 x29_1).f1), .slice A418_2 ((rd_T77 l0_1 x29_1).f2).length c418_2] 77 (0, 0)) (pK BK419) hb) (bz_ pB hb)
                   clear BK415 BK419 HB; obtain ⟨BK415, BK419, HB⟩ := n_; (try clear hb); (try clear hb2); (try clear hk); (try clear hi)
                   refine hK.out _ _ ⟨(blk_cell BK419.out 0).trans rfl, (blk_cell BK419.out 1).trans rfl, (blk_cell BK419.out 2).trans rfl, (blk_cell BK415.out 0).trans rfl, (blk_cell BK415.out 1).trans rfl, (blk_cell BK415.out 2).trans rfl⟩ (fun hHeld => ?_)
                   clear hK K
                   refine rN ?_
                   refine rP 6 (some 5) #[true, true, true, true, true, true, true] (by kernel_rfl) ?_
                   refine done_ (by kernel_rfl) ?_
                   try go_wp2
                   go_roundg k1
                   case measure => have := HK1.out; omega
                   case rel => exact ⟨(wrap64 (x29_1 + 1)), pF, H', ⟨by have := HK1.out; omega⟩, ⟨(pK BK415)⟩, ⟨pB⟩⟩
                 · rw [if_neg c17] at H
                   have c17b0 : (t424 == 0) = false := beq_eq_false_iff_ne.mpr c17
                   have c17b1 : (t424 != 0) = true := bne_iff_ne.mpr c17
                   obtain rfl := sj H
                   have p418 : 0 ≤ (x29_1 : Int) := pD
                   have q418 : x29_1 < (l0_1.length : Int) := pD
                   obtain ⟨ad418, A418_2, c418_2, e418, hx418_0, hx418_1, hx418_2, hl418_2, hi418_2⟩ := at_T77 HR0_1.out x29_1 p418 q418
                   cases e418; replace hx418_0 := cb HB hx418_0; replace hx418_1 := cb HB hx418_1; replace hx418_2 := cb HB hx418_2; have HR418_2 := am hi418_2; have HC418_2 := am hl418_2; clear hi418_2 hl418_2; replace p418 := eq_true p418; replace q418 := eq_true q418
                   try go_wp2_with (first | ((with_reducible refine gate_dst (N := 4) rfl ?_); (try (refine gate_guard (by rfl) ?_; dsimp only)); refine box_event ?hg (N := 4) ?hd (cs := #[.int .i64 0, .int .i64 0, .slice none 0 0]) (t := 77) ?hr ?_; (case hd => rfl); (case hg => rfl); (case hr => first | (go_simp; done) | (go_simp; rfl)); intro gb419 hg w25 hbox hb; have n_ := t7 (blk_below (g := gb415) (o := .cells #[.int .i64 a0_0, .slice (some ad418) l0_1.length c0_1, .slice A0_2 l0_2.length c0_2] 54 (0, 0)) (pK BK415) hb) (bz_ pB hb) (hbox) ((by rw [hg]; exact (bs_ pB) : w.heap.size ≤ gb419)) ((by rw [hg]; exact (bs_ pB) : w.heap.size ≤ gb419)) ((by rw [hg]; exact Nat.ne_of_lt (blk_lt (g := gb415) (o := .cells #[.int .i64 a0_0, .slice (some ad418) l0_1.length c0_1, .slice A0_2 l0_2.length c0_2] 54 (0, 0)) (pK BK415)) : gb415 ≠ gb419)) ((by rw [hg]; exact Nat.ne_of_gt (blk_lt (g := gb415) (o := .cells #[.int .i64 a0_0, .slice (some ad418) l0_1.length c0_1, .slice A0_2 l0_2.length c0_2] 54 (0, 0)) (pK BK415)) : gb419 ≠ gb415)); clear BK415 HB; obtain ⟨BK415, HB, BK419, GW419, GE419, NB415_419, NB419_415⟩ := n_; clear hb hbox hg; have hnb26 := NB419_415.out; have hnc26 := NB415_419.out; have hcz27_0 : w25.cell? ⟨gb419, 0, none⟩ = some (.int .i64 0) := (blk_cell BK419.out 0).trans rfl; have hcz27_1 : w25.cell? ⟨gb419, 1, none⟩ = some (.int .i64 0) := (blk_cell BK419.out 1).trans rfl; have hcz27_2 : w25.cell? ⟨gb419, 2, none⟩ = some (.slice none 0 0) := (blk_cell BK419.out 2).trans rfl; have hfz27_0 := blk_frozen BK419.out 0; have hfz27_1 := blk_frozen BK419.out 1; have hfz27_2 := blk_frozen BK419.out 2))
                   have n0_ : Aside0 ((((w25.setCell ⟨gb419, 0, none⟩ (.int .i64 ((rd_T77 l0_1 x29_1).f0))).setCell ⟨gb419, 1, none⟩ (.int .i64 ((rd_T77 l0_1 x29_1).f1))).setCell ⟨gb419, 2, none⟩ (.slice A418_2 ((rd_T77 l0_1 x29_1).f2).length c418_2)).heap[gb415]? = some (.cells #[.int .i64 a0_0, .slice (some ad418) l0_1.length c0_1, .slice A0_2 l0_2.length c0_2] 54 (0, 0))) := ⟨by (with_reducible repeat (first | refine blk_drewN ?_ _ | refine blk_drew ?_ | refine blk_alloc ?_ _)); refine blk_far ?_ NB415_419.out _; (with_reducible repeat (first | refine blk_drewN ?_ _ | refine blk_drew ?_ | refine blk_alloc ?_ _)); refine blk_far ?_ NB415_419.out _; (with_reducible repeat (first | refine blk_drewN ?_ _ | refine blk_drew ?_ | refine blk_alloc ?_ _)); refine blk_far ?_ NB415_419.out _; (with_reducible repeat (first | refine blk_drewN ?_ _ | refine blk_drew ?_ | refine blk_alloc ?_ _)); exact BK415.out⟩
                   have n1_ : Aside0 ((((w25.setCell ⟨gb419, 0, none⟩ (.int .i64 ((rd_T77 l0_1 x29_1).f0))).setCell ⟨gb419, 1, none⟩ (.int .i64 ((rd_T77 l0_1 x29_1).f1))).setCell ⟨gb419, 2, none⟩ (.slice A418_2 ((rd_T77 l0_1 x29_1).f2).length c418_2)).heap[gb419]? = some (.cells #[.int .i64 ((rd_T77 l0_1 x29_1).f0), .int .i64 ((rd_T77 l0_1 x29_1).f1), .slice A418_2 ((rd_T77 l0_1 x29_1).f2).length c418_2] 77 (0, 0))) := ⟨by (with_reducible repeat (first | refine blk_drewN ?_ _ | refine blk_drew ?_ | refine blk_alloc ?_ _)); refine blk_put (cs := #[.int .i64 ((rd_T77 l0_1 x29_1).f0), .int .i64 ((rd_T77 l0_1 x29_1).f1), .slice none 0 0]) ?_ 2 _ rfl; (with_reducible repeat (first | refine blk_drewN ?_ _ | refine blk_drew ?_ | refine blk_alloc ?_ _)); refine blk_put (cs := #[.int .i64 ((rd_T77 l0_1 x29_1).f0), .int .i64 0, .slice none 0 0]) ?_ 1 _ rfl; (with_reducible repeat (first | refine blk_drewN ?_ _ | refine blk_drew ?_ | refine blk_alloc ?_ _)); refine blk_put (cs := #[.int .i64 0, .int .i64 0, .slice none 0 0]) ?_ 0 _ rfl; (with_reducible repeat (first | refine blk_drewN ?_ _ | refine blk_drew ?_ | refine blk_alloc ?_ _)); exact BK419.out⟩
                   have n2_ : Aside0 (Below w.heap.size w (((w25.setCell ⟨gb419, 0, none⟩ (.int .i64 ((rd_T77 l0_1 x29_1).f0))).setCell ⟨gb419, 1, none⟩ (.int .i64 ((rd_T77 l0_1 x29_1).f1))).setCell ⟨gb419, 2, none⟩ (.slice A418_2 ((rd_T77 l0_1 x29_1).f2).length c418_2))) := ⟨pB⟩
                   (try clear BK415); (try clear BK419); (try clear HB)
                   generalize (((w25.setCell ⟨gb419, 0, none⟩ (.int .i64 ((rd_T77 l0_1 x29_1).f0))).setCell ⟨gb419, 1, none⟩ (.int .i64 ((rd_T77 l0_1 x29_1).f1))).setCell ⟨gb419, 2, none⟩ (.slice A418_2 ((rd_T77 l0_1 x29_1).f2).length c418_2)) = w28 at n0_ n1_ n2_ ⊢
                   have BK415 := n0_
                   have BK419 := n1_
                   have HB := n2_
                   clear n0_ n1_ n2_
                   have n_ := t3 (blk_drew BK415.out) (blk_drew BK419.out) (below_drew1 HB.out)
                   clear BK415 BK419 HB; obtain ⟨BK415, BK419, HB⟩ := n_
                   have q30 : (x29_1 : Int) ≤ ((l0_1.length : Int) : Int) := pD
                   obtain ⟨i030, hi030, _, hsz30, _⟩ := info_parts info77
                   have hroom30 : l0_1.length ≤ c0_1 := HC0_1.out
                   have hC30 : Kd.C k77 _ (some ad418) l0_1.length l0_1 := HR0_1.out
                   have hcut30 := cut_to (P := Try.prog) 51 77 .i64 Try.underlying51 hi030 (some ad418) l0_1.length c0_1 x29_1 (pD) q30 hroom30
                   have hr30 := Kd.C_take (m := (x29_1 : Int).toNat) hC30 (by omega)
                   have hy30 : y420.length = (x29_1 : Int).toNat := (by rw [Ny420.out, List.length_take]; omega)
                   rw [← Ny420.out] at hr30
                   rw [← hy30] at hcut30
                   have HR423 := am hr30
                   have HC423 := am (show y420.length ≤ c0_1 from by omega)
                   clear hr30 hC30 hroom30 hi030 hsz30; have KY30 := am hy30; clear hy30; replace q30 := eq_true q30
                   refine start_ (n := 7) (S := fun w' => w'.cell? ⟨gb419, 0, none⟩ = some (.int .i64 ((rd_T77 l0_1 x29_1).f0)) ∧ w'.cell? ⟨gb419, 1, none⟩ = some (.int .i64 ((rd_T77 l0_1 x29_1).f1)) ∧ w'.cell? ⟨gb419, 2, none⟩ = some (.slice A418_2 ((rd_T77 l0_1 x29_1).f2).length c418_2) ∧ w'.cell? ⟨gb415, 0, none⟩ = some (.int .i64 a0_0) ∧ w'.cell? ⟨gb415, 1, none⟩ = some (.slice (some ad418) l0_1.length c0_1) ∧ w'.cell? ⟨gb415, 2, none⟩ = some (.slice A0_2 l0_2.length c0_2)) (ds := []) #[false, false, false, false, false, false, false] (by kernel_rfl) rfl rfl ⟨(blk_cell BK419.out 0).trans rfl, (blk_cell BK419.out 1).trans rfl, (blk_cell BK419.out 2).trans rfl, (blk_cell BK415.out 0).trans rfl, (blk_cell BK415.out 1).trans rfl, (blk_cell BK415.out 2).trans rfl⟩ (fun hHeld => ?_)
                   generalize w28.drew = w29 at BK415 BK419 HB HR423 hHeld ⊢
                   refine rP 1 (some 35) #[false, true, false, false, false, false, false] (by kernel_rfl) ?_
                   refine rP 3 (some 37) #[false, true, false, true, false, false, false] (by kernel_rfl) ?_
                   refine rT 0 (some 34) #[true, true, false, true, false, false, false] (by kernel_rfl) hHeld ?_
                   refine rT 2 (some 36) #[true, true, true, true, false, false, false] (by kernel_rfl) hHeld ?_
                   refine rP 4 (some 38) #[true, true, true, true, true, false, false] (by kernel_rfl) ?_
                   refine one_ (i := 5) (N := some 39) #[true, true, true, true, true, true, false] rfl rfl (by kernel_rfl) (by decide) (fun K hK => ?_)
                   refine goes_ Try.func48 (by kernel_rfl) rfl #[.agg #[.int .i64 ((rd_T77 l0_1 x29_1).f0), .int .i64 ((rd_T77 l0_1 x29_1).f1), .slice A418_2 ((rd_T77 l0_1 x29_1).f2).length c418_2], .slice (some ad418) y420.length c0_1] (by rfl) rfl rfl pA ?_
                   with_reducible refine (impl_inFault.calls k1 ((rd_T77 l0_1 x29_1).f0) ((rd_T77 l0_1 x29_1).f1) _ _ ((rd_T77 l0_1 x29_1).f2) _ _ y420 t424 _ ?side1 ?side2 ?side3 ?side4 A16.out).mono ?_
                   (case side1 => exact pC (Kd.C_below HR418_2.out HB.out))
                   (case side2 => exact HC418_2.out)
                   (case side3 => exact pC (Kd.C_below HR423.out HB.out))
                   (case side4 => exact HC423.out)
                   rintro e w31 ⟨rfl, hb⟩
                   refine ⟨_, rfl, ?_⟩
                   have n_ := t3 (blk_below (g := gb415) (o := .cells #[.int .i64 a0_0, .slice (some ad418) l0_1.length c0_1, .slice A0_2 l0_2.length c0_2] 54 (0, 0)) (pK BK415) hb) (blk_below (g := gb419) (o := .cells #[.int .i64 ((rd_T77 l0_1 x29_1).f0), .int .i64 ((rd_T77 l0_1 x29_1).f1), .slice A418_2 ((rd_T77 l0_1 x29_1).f2).length c418_2] 77 (0, 0)) (pK BK419) hb) (bz_ pB hb)
                   clear BK415 BK419 HB; obtain ⟨BK415, BK419, HB⟩ := n_; (try clear hb); (try clear hb2); (try clear hk); (try clear hi)
                   refine hK.out _ _ ⟨(blk_cell BK419.out 0).trans rfl, (blk_cell BK419.out 1).trans rfl, (blk_cell BK419.out 2).trans rfl, (blk_cell BK415.out 0).trans rfl, (blk_cell BK415.out 1).trans rfl, (blk_cell BK415.out 2).trans rfl⟩ (fun hHeld => ?_)
                   clear hK K
                   refine rN ?_
                   refine rP 6 (some 5) #[true, true, true, true, true, true, true] (by kernel_rfl) ?_
                   refine done_ (by kernel_rfl) ?_
                   try go_wp2
                   go_ret
                   exact ⟨pE, pB⟩
               · rw [if_neg c15] at H
                 exact absurd H (by simp)
             · rw [if_neg c13] at H
               exact absurd H (by simp)
           · rw [if_neg c12] at H
             exact absurd H (by simp)
         · rw [if_neg c11] at H
           have c11b0 : decide (x29_1 < (l0_1.length : Int)) = false := decide_eq_false c11
           clear c11
           have H' := am H
           clear H
           obtain ⟨hcz32_0, hcz32_1, hcz32_2, hfz32_0, hfz32_1, hfz32_2⟩ := bx3 BK415
           go_wp2
           go_loopg [47] k1 (fun kq v47 w' => ∃ (x47_2 : Int), v47 = .int .i64 x47_2 ∧ Aside0 (impl_TxFault.l1 kq l0_2 (l0_2.length : Int) x47_2 a0_0 l0_1 l0_2 = some r) ∧ Aside0 (kq ≤ k1) ∧ Aside0 (w'.heap[gb415]? = some (.cells #[.int .i64 a0_0, (.slice A0_1 l0_1.length c0_1), (.slice A0_2 l0_2.length c0_2)] 54 (0, 0))) ∧ Aside0 (Below w.heap.size w w'))
           case atStart => exact ⟨(0), pF, H', ⟨Nat.le_refl _⟩, ⟨(pK BK415)⟩, ⟨pB⟩⟩
           case round =>
            clear H'
            (try clear c3); (try clear c4); (try clear c4b0); (try clear c4b1); (try clear c8); (try clear c11); (try clear c11b0); (try clear hcz10_0); (try clear hcz10_1); (try clear hcz10_2); (try clear hcz32_0); (try clear hcz32_1); (try clear hcz32_2); (try clear hfz10_0); (try clear hfz10_1); (try clear hfz10_2); (try clear hfz32_0); (try clear hfz32_1); (try clear hfz32_2)
            obtain ⟨x47_2, rfl, HA, HK2, BK415, HB⟩ := hrel
            cases gk with
            | zero => exact absurd HA.out (by simp [impl_TxFault.l1])
            | succ k2 =>
             have H := HA.out
             clear HA
             simp only [impl_TxFault.l1] at H
             by_cases c33 : x47_2 < (l0_2.length : Int)
             · rw [if_pos c33] at H
               have c33b0 : decide (x47_2 < (l0_2.length : Int)) = true := dt c33
               clear c33
               by_cases c34 : 0 ≤ x47_2
               · rw [if_pos c34] at H
                 have c34b0 : decide (0 ≤ x47_2) = true := dt c34
                 clear c34
                 by_cases c35 : x47_2 < (l0_2.length : Int)
                 · rw [if_pos c35] at H
                   have c35b0 : decide (x47_2 < (l0_2.length : Int)) = true := dt c35
                   clear c35
                   obtain ⟨t427, A360, H⟩ := bO H
                   replace H : (if t427 = true then ((impl_ProgramFault.f k2 ((rd_T80 l0_2 x47_2).f1)).bind fun t428 => (if t428 = 0 then (impl_TxFault.l1 k2 l0_2 (l0_2.length : Int) (wrap64 (x47_2 + 1)) a0_0 l0_1 l0_2) else (some t428))) else (some 3)) = some r := H
                   have A36 := am A360; clear A360
                   by_cases c37 : t427 = true
                   · subst c37
                     have H1 : ((impl_ProgramFault.f k2 ((rd_T80 l0_2 x47_2).f1)).bind fun t428 => (if t428 = 0 then (impl_TxFault.l1 k2 l0_2 (l0_2.length : Int) (wrap64 (x47_2 + 1)) a0_0 l0_1 l0_2) else (some t428))) = some r := by rw [if_pos rfl] at H; exact H
                     clear H; have H := H1; clear H1
                     obtain ⟨t428, A380, H⟩ := bO H
                     replace H : (if t428 = 0 then (impl_TxFault.l1 k2 l0_2 (l0_2.length : Int) (wrap64 (x47_2 + 1)) a0_0 l0_1 l0_2) else (some t428)) = some r := H
                     have A38 := am A380; clear A380
                     by_cases c39 : t428 = 0
                     · rw [if_pos c39] at H
                       have c39b0 : (t428 == 0) = true := beq_iff_eq.mpr c39
                       have c39b1 : (t428 != 0) = false := bne_eq_false_iff_eq.mpr c39
                       clear c39
                       have H' := am H
                       clear H
                       have p425 : 0 ≤ (x47_2 : Int) := pD
                       have q425 : x47_2 < (l0_2.length : Int) := pD
                       obtain ⟨ad425, A425_1, c425_1, e425, hx425_0, hx425_1, hl425_1, hi425_1⟩ := at_T80 HR0_2.out x47_2 p425 q425
                       cases e425; replace hx425_0 := cb HB hx425_0; replace hx425_1 := cb HB hx425_1; have HR425_1 := am hi425_1; have HC425_1 := am hl425_1; clear hi425_1 hl425_1; replace p425 := eq_true p425; replace q425 := eq_true q425
                       go_wp2_with (first | ((with_reducible refine gate_dst (N := 7) rfl ?_); (try (refine gate_guard (by rfl) ?_; dsimp only)); refine box_event ?hg (N := 7) ?hd (cs := #[.int .i64 0, .slice none 0 0]) (t := 80) ?hr ?_; (case hd => rfl); (case hg => rfl); (case hr => first | (go_simp; done) | (go_simp; rfl)); intro gb426 hg w40 hbox hb; have n_ := t7 (blk_below (g := gb415) (o := .cells #[.int .i64 a0_0, .slice A0_1 l0_1.length c0_1, .slice (some ad425) l0_2.length c0_2] 54 (0, 0)) (pK BK415) hb) (bz_ pB hb) (hbox) ((by rw [hg]; exact (bs_ pB) : w.heap.size ≤ gb426)) ((by rw [hg]; exact (bs_ pB) : w.heap.size ≤ gb426)) ((by rw [hg]; exact Nat.ne_of_lt (blk_lt (g := gb415) (o := .cells #[.int .i64 a0_0, .slice A0_1 l0_1.length c0_1, .slice (some ad425) l0_2.length c0_2] 54 (0, 0)) (pK BK415)) : gb415 ≠ gb426)) ((by rw [hg]; exact Nat.ne_of_gt (blk_lt (g := gb415) (o := .cells #[.int .i64 a0_0, .slice A0_1 l0_1.length c0_1, .slice (some ad425) l0_2.length c0_2] 54 (0, 0)) (pK BK415)) : gb426 ≠ gb415)); clear BK415 HB; obtain ⟨BK415, HB, BK426, GW426, GE426, NB415_426, NB426_415⟩ := n_; clear hb hbox hg; have hnb41 := NB426_415.out; have hnc41 := NB415_426.out; have hcz42_0 : w40.cell? ⟨gb426, 0, none⟩ = some (.int .i64 0) := (blk_cell BK426.out 0).trans rfl; have hcz42_1 : w40.cell? ⟨gb426, 1, none⟩ = some (.slice none 0 0) := (blk_cell BK426.out 1).trans rfl; have hfz42_0 := blk_frozen BK426.out 0; have hfz42_1 := blk_frozen BK426.out 1) | ((with_reducible refine gC (f := 49) rfl ?_); refine goesL_ (some 53) rfl rfl Try.func49 (by kernel_rfl) rfl #[.int .i64 ((rd_T80 l0_2 x47_2).f0)] rfl pA ?_; (with_reducible refine (impl_isAmount.calls ((rd_T80 l0_2 x47_2).f0) true _ A36.out).mono ?_); rintro e w' ⟨rfl, ⟨nd, rfl⟩⟩; refine ⟨_, rfl, ?_⟩) | ((with_reducible refine gC (f := 50) rfl ?_); refine goesL_ (some 57) rfl rfl Try.func50 (by kernel_rfl) rfl #[.slice A425_1 ((rd_T80 l0_2 x47_2).f1).length c425_1] rfl pA ?_; (with_reducible refine (impl_ProgramFault.calls k2 _ _ ((rd_T80 l0_2 x47_2).f1) t428 _ ?side1 ?side2 A38.out).mono ?_); (case side1 => exact Kd.C_below HR425_1.out pB); (case side2 => exact HC425_1.out); rintro e w' ⟨rfl, ⟨nd, rfl⟩⟩; refine ⟨_, rfl, ?_⟩))
                       go_roundg k2
                       case measure => have := HK1.out; have := HK2.out; omega
                       case rel => exact ⟨(wrap64 (x47_2 + 1)), pF, H', ⟨by have := HK1.out; have := HK2.out; omega⟩, ⟨by (with_reducible repeat (first | refine blk_drewN ?_ _ | refine blk_drew ?_ | refine blk_alloc ?_ _)); refine blk_far ?_ NB415_426.out _; (with_reducible repeat (first | refine blk_drewN ?_ _ | refine blk_drew ?_ | refine blk_alloc ?_ _)); refine blk_far ?_ NB415_426.out _; (with_reducible repeat (first | refine blk_drewN ?_ _ | refine blk_drew ?_ | refine blk_alloc ?_ _)); exact BK415.out⟩, ⟨pB⟩⟩
                     · rw [if_neg c39] at H
                       have c39b0 : (t428 == 0) = false := beq_eq_false_iff_ne.mpr c39
                       have c39b1 : (t428 != 0) = true := bne_iff_ne.mpr c39
                       obtain rfl := sj H
                       have p425 : 0 ≤ (x47_2 : Int) := pD
                       have q425 : x47_2 < (l0_2.length : Int) := pD
                       obtain ⟨ad425, A425_1, c425_1, e425, hx425_0, hx425_1, hl425_1, hi425_1⟩ := at_T80 HR0_2.out x47_2 p425 q425
                       cases e425; replace hx425_0 := cb HB hx425_0; replace hx425_1 := cb HB hx425_1; have HR425_1 := am hi425_1; have HC425_1 := am hl425_1; clear hi425_1 hl425_1; replace p425 := eq_true p425; replace q425 := eq_true q425
                       go_wp2_with (first | ((with_reducible refine gate_dst (N := 7) rfl ?_); (try (refine gate_guard (by rfl) ?_; dsimp only)); refine box_event ?hg (N := 7) ?hd (cs := #[.int .i64 0, .slice none 0 0]) (t := 80) ?hr ?_; (case hd => rfl); (case hg => rfl); (case hr => first | (go_simp; done) | (go_simp; rfl)); intro gb426 hg w43 hbox hb; have n_ := t7 (blk_below (g := gb415) (o := .cells #[.int .i64 a0_0, .slice A0_1 l0_1.length c0_1, .slice (some ad425) l0_2.length c0_2] 54 (0, 0)) (pK BK415) hb) (bz_ pB hb) (hbox) ((by rw [hg]; exact (bs_ pB) : w.heap.size ≤ gb426)) ((by rw [hg]; exact (bs_ pB) : w.heap.size ≤ gb426)) ((by rw [hg]; exact Nat.ne_of_lt (blk_lt (g := gb415) (o := .cells #[.int .i64 a0_0, .slice A0_1 l0_1.length c0_1, .slice (some ad425) l0_2.length c0_2] 54 (0, 0)) (pK BK415)) : gb415 ≠ gb426)) ((by rw [hg]; exact Nat.ne_of_gt (blk_lt (g := gb415) (o := .cells #[.int .i64 a0_0, .slice A0_1 l0_1.length c0_1, .slice (some ad425) l0_2.length c0_2] 54 (0, 0)) (pK BK415)) : gb426 ≠ gb415)); clear BK415 HB; obtain ⟨BK415, HB, BK426, GW426, GE426, NB415_426, NB426_415⟩ := n_; clear hb hbox hg; have hnb44 := NB426_415.out; have hnc44 := NB415_426.out; have hcz45_0 : w43.cell? ⟨gb426, 0, none⟩ = some (.int .i64 0) := (blk_cell BK426.out 0).trans rfl; have hcz45_1 : w43.cell? ⟨gb426, 1, none⟩ = some (.slice none 0 0) := (blk_cell BK426.out 1).trans rfl; have hfz45_0 := blk_frozen BK426.out 0; have hfz45_1 := blk_frozen BK426.out 1) | ((with_reducible refine gC (f := 49) rfl ?_); refine goesL_ (some 53) rfl rfl Try.func49 (by kernel_rfl) rfl #[.int .i64 ((rd_T80 l0_2 x47_2).f0)] rfl pA ?_; (with_reducible refine (impl_isAmount.calls ((rd_T80 l0_2 x47_2).f0) true _ A36.out).mono ?_); rintro e w' ⟨rfl, ⟨nd, rfl⟩⟩; refine ⟨_, rfl, ?_⟩) | ((with_reducible refine gC (f := 50) rfl ?_); refine goesL_ (some 57) rfl rfl Try.func50 (by kernel_rfl) rfl #[.slice A425_1 ((rd_T80 l0_2 x47_2).f1).length c425_1] rfl pA ?_; (with_reducible refine (impl_ProgramFault.calls k2 _ _ ((rd_T80 l0_2 x47_2).f1) t428 _ ?side1 ?side2 A38.out).mono ?_); (case side1 => exact Kd.C_below HR425_1.out pB); (case side2 => exact HC425_1.out); rintro e w' ⟨rfl, ⟨nd, rfl⟩⟩; refine ⟨_, rfl, ?_⟩))
                       go_ret
                       exact ⟨pE, pB⟩
                   · replace c37 := Bool.eq_false_iff.mpr c37
                     subst c37
                     have H1 : (some 3) = some r := by rw [if_neg (show ¬ (false = true) by decide)] at H; exact H
                     clear H; have H := H1; clear H1
                     obtain rfl := sj H
                     have p425 : 0 ≤ (x47_2 : Int) := pD
                     have q425 : x47_2 < (l0_2.length : Int) := pD
                     obtain ⟨ad425, A425_1, c425_1, e425, hx425_0, hx425_1, hl425_1, hi425_1⟩ := at_T80 HR0_2.out x47_2 p425 q425
                     cases e425; replace hx425_0 := cb HB hx425_0; replace hx425_1 := cb HB hx425_1; have HR425_1 := am hi425_1; have HC425_1 := am hl425_1; clear hi425_1 hl425_1; replace p425 := eq_true p425; replace q425 := eq_true q425
                     go_wp2_with (first | ((with_reducible refine gate_dst (N := 7) rfl ?_); (try (refine gate_guard (by rfl) ?_; dsimp only)); refine box_event ?hg (N := 7) ?hd (cs := #[.int .i64 0, .slice none 0 0]) (t := 80) ?hr ?_; (case hd => rfl); (case hg => rfl); (case hr => first | (go_simp; done) | (go_simp; rfl)); intro gb426 hg w46 hbox hb; have n_ := t7 (blk_below (g := gb415) (o := .cells #[.int .i64 a0_0, .slice A0_1 l0_1.length c0_1, .slice (some ad425) l0_2.length c0_2] 54 (0, 0)) (pK BK415) hb) (bz_ pB hb) (hbox) ((by rw [hg]; exact (bs_ pB) : w.heap.size ≤ gb426)) ((by rw [hg]; exact (bs_ pB) : w.heap.size ≤ gb426)) ((by rw [hg]; exact Nat.ne_of_lt (blk_lt (g := gb415) (o := .cells #[.int .i64 a0_0, .slice A0_1 l0_1.length c0_1, .slice (some ad425) l0_2.length c0_2] 54 (0, 0)) (pK BK415)) : gb415 ≠ gb426)) ((by rw [hg]; exact Nat.ne_of_gt (blk_lt (g := gb415) (o := .cells #[.int .i64 a0_0, .slice A0_1 l0_1.length c0_1, .slice (some ad425) l0_2.length c0_2] 54 (0, 0)) (pK BK415)) : gb426 ≠ gb415)); clear BK415 HB; obtain ⟨BK415, HB, BK426, GW426, GE426, NB415_426, NB426_415⟩ := n_; clear hb hbox hg; have hnb47 := NB426_415.out; have hnc47 := NB415_426.out; have hcz48_0 : w46.cell? ⟨gb426, 0, none⟩ = some (.int .i64 0) := (blk_cell BK426.out 0).trans rfl; have hcz48_1 : w46.cell? ⟨gb426, 1, none⟩ = some (.slice none 0 0) := (blk_cell BK426.out 1).trans rfl; have hfz48_0 := blk_frozen BK426.out 0; have hfz48_1 := blk_frozen BK426.out 1) | ((with_reducible refine gC (f := 49) rfl ?_); refine goesL_ (some 53) rfl rfl Try.func49 (by kernel_rfl) rfl #[.int .i64 ((rd_T80 l0_2 x47_2).f0)] rfl pA ?_; (with_reducible refine (impl_isAmount.calls ((rd_T80 l0_2 x47_2).f0) false _ A36.out).mono ?_); rintro e w' ⟨rfl, ⟨nd, rfl⟩⟩; refine ⟨_, rfl, ?_⟩))
                     go_ret
                     exact ⟨pE, pB⟩
                 · rw [if_neg c35] at H
                   exact absurd H (by simp)
               · rw [if_neg c34] at H
                 exact absurd H (by simp)
             · rw [if_neg c33] at H
               have c33b0 : decide (x47_2 < (l0_2.length : Int)) = false := decide_eq_false c33
               clear c33
               obtain ⟨t429, A490, H⟩ := bO H
               replace H : ((impl_isAmount.f t429).bind fun t430 => (if t430 = true then (some 0) else (some 7))) = some r := H
               have A49 := am A490; clear A490
               obtain ⟨t430, A500, H⟩ := bO H
               replace H : (if t430 = true then (some 0) else (some 7)) = some r := H
               have A50 := am A500; clear A500
               by_cases c51 : t430 = true
               · subst c51
                 have H1 : (some 0) = some r := by rw [if_pos rfl] at H; exact H
                 clear H; have H := H1; clear H1
                 obtain rfl := sj H
                 obtain ⟨hcz52_0, hcz52_1, hcz52_2, hfz52_0, hfz52_1, hfz52_2⟩ := bx3 BK415
                 go_wp2_with (first | ((with_reducible refine gC (f := 51) rfl ?_); refine goesL_ (some 64) rfl rfl Try.func51 (by kernel_rfl) rfl #[.slice A0_2 l0_2.length c0_2] rfl pA ?_; (with_reducible refine (impl_outSum.calls k2 _ _ l0_2 t429 _ ?side1 ?side2 A49.out).mono ?_); (case side1 => exact pC (Kd.C_below HR0_2.out HB.out)); (case side2 => exact HC0_2.out); rintro e w53 ⟨rfl, hb⟩; refine ⟨_, rfl, ?_⟩; have n_ := t2 (blk_below (g := gb415) (o := .cells #[.int .i64 a0_0, .slice A0_1 l0_1.length c0_1, .slice A0_2 l0_2.length c0_2] 54 (0, 0)) (pK BK415) hb) (bz_ pB hb); clear BK415 HB; obtain ⟨BK415, HB⟩ := n_; (try clear hb)) | ((with_reducible refine gC (f := 49) rfl ?_); refine goesL_ (some 65) rfl rfl Try.func49 (by kernel_rfl) rfl #[.int .i64 t429] rfl pA ?_; (with_reducible refine (impl_isAmount.calls t429 true _ A50.out).mono ?_); rintro e w' ⟨rfl, ⟨nd, rfl⟩⟩; refine ⟨_, rfl, ?_⟩))
                 go_ret
                 exact ⟨pE, pB⟩
               · replace c51 := Bool.eq_false_iff.mpr c51
                 subst c51
                 have H1 : (some 7) = some r := by rw [if_neg (show ¬ (false = true) by decide)] at H; exact H
                 clear H; have H := H1; clear H1
                 obtain rfl := sj H
                 obtain ⟨hcz54_0, hcz54_1, hcz54_2, hfz54_0, hfz54_1, hfz54_2⟩ := bx3 BK415
                 go_wp2_with (first | ((with_reducible refine gC (f := 51) rfl ?_); refine goesL_ (some 64) rfl rfl Try.func51 (by kernel_rfl) rfl #[.slice A0_2 l0_2.length c0_2] rfl pA ?_; (with_reducible refine (impl_outSum.calls k2 _ _ l0_2 t429 _ ?side1 ?side2 A49.out).mono ?_); (case side1 => exact pC (Kd.C_below HR0_2.out HB.out)); (case side2 => exact HC0_2.out); rintro e w55 ⟨rfl, hb⟩; refine ⟨_, rfl, ?_⟩; have n_ := t2 (blk_below (g := gb415) (o := .cells #[.int .i64 a0_0, .slice A0_1 l0_1.length c0_1, .slice A0_2 l0_2.length c0_2] 54 (0, 0)) (pK BK415) hb) (bz_ pB hb); clear BK415 HB; obtain ⟨BK415, HB⟩ := n_; (try clear hb)) | ((with_reducible refine gC (f := 49) rfl ?_); refine goesL_ (some 65) rfl rfl Try.func49 (by kernel_rfl) rfl #[.int .i64 t429] rfl pA ?_; (with_reducible refine (impl_isAmount.calls t429 false _ A50.out).mono ?_); rintro e w' ⟨rfl, ⟨nd, rfl⟩⟩; refine ⟨_, rfl, ?_⟩))
                 go_ret
                 exact ⟨pE, pB⟩
     · replace c8 := Bool.eq_false_iff.mpr c8
       subst c8
       have H1 : (some 2) = some r := by rw [if_neg (show ¬ (false = true) by decide)] at H; exact H
       clear H; have H := H1; clear H1
       obtain rfl := sj H
       go_enter Try.func31, Try.ntmps31
       go_wp2_with (first | ((with_reducible refine gate_dst (N := 1) rfl ?_); (try (refine gate_guard (by rfl) ?_; dsimp only)); refine box_event ?hg (N := 1) ?hd (cs := #[.int .i64 a0_0, .slice A0_1 l0_1.length c0_1, .slice A0_2 l0_2.length c0_2]) (t := 54) ?hr ?_; (case hd => rfl); (case hg => rfl); (case hr => first | (go_simp; done) | (go_simp; rfl)); intro gb415 hg w56 hbox hb; have n_ := t4 (bz_ pB hb) (hbox) ((by rw [hg]; exact (bs_ pB) : w.heap.size ≤ gb415)) ((by rw [hg]; exact (bs_ pB) : w.heap.size ≤ gb415)); clear HB; obtain ⟨HB, BK415, GW415, GE415⟩ := n_; clear hb hbox hg; have hcz57_0 : w56.cell? ⟨gb415, 0, none⟩ = some (.int .i64 a0_0) := (blk_cell BK415.out 0).trans rfl; have hcz57_1 : w56.cell? ⟨gb415, 1, none⟩ = some (.slice A0_1 l0_1.length c0_1) := (blk_cell BK415.out 1).trans rfl; have hcz57_2 : w56.cell? ⟨gb415, 2, none⟩ = some (.slice A0_2 l0_2.length c0_2) := (blk_cell BK415.out 2).trans rfl; have hfz57_0 := blk_frozen BK415.out 0; have hfz57_1 := blk_frozen BK415.out 1; have hfz57_2 := blk_frozen BK415.out 2) | ((with_reducible refine gC (f := 29) rfl ?_); refine goesL_ (some 12) rfl rfl Try.func29 (by kernel_rfl) rfl #[.int .i64 a0_0, .int .i64 0, .int .i64 65535] rfl pA ?_; (with_reducible refine (impl_in.calls a0_0 0 65535 true _ A2.out).mono ?_); rintro e w' ⟨rfl, ⟨nd, rfl⟩⟩; refine ⟨_, rfl, ?_⟩) | (go_at_call 29; (with_reducible refine (impl_in.calls (l0_2.length : Int) 1 4 false _ A7.out).mono ?_); rintro e w' ⟨rfl, ⟨nd, rfl⟩⟩))
       go_ret
       exact ⟨pE, pB⟩
 · replace c3 := Bool.eq_false_iff.mpr c3
   subst c3
   have H1 : (some 3) = some r := by rw [if_neg (show ¬ (false = true) by decide)] at H; exact H
   clear H; have H := H1; clear H1
   obtain rfl := sj H
   go_enter Try.func31, Try.ntmps31
   go_wp2_with (first | ((with_reducible refine gate_dst (N := 1) rfl ?_); (try (refine gate_guard (by rfl) ?_; dsimp only)); refine box_event ?hg (N := 1) ?hd (cs := #[.int .i64 a0_0, .slice A0_1 l0_1.length c0_1, .slice A0_2 l0_2.length c0_2]) (t := 54) ?hr ?_; (case hd => rfl); (case hg => rfl); (case hr => first | (go_simp; done) | (go_simp; rfl)); intro gb415 hg w58 hbox hb; have n_ := t4 (bz_ pB hb) (hbox) ((by rw [hg]; exact (bs_ pB) : w.heap.size ≤ gb415)) ((by rw [hg]; exact (bs_ pB) : w.heap.size ≤ gb415)); clear HB; obtain ⟨HB, BK415, GW415, GE415⟩ := n_; clear hb hbox hg; have hcz59_0 : w58.cell? ⟨gb415, 0, none⟩ = some (.int .i64 a0_0) := (blk_cell BK415.out 0).trans rfl; have hcz59_1 : w58.cell? ⟨gb415, 1, none⟩ = some (.slice A0_1 l0_1.length c0_1) := (blk_cell BK415.out 1).trans rfl; have hcz59_2 : w58.cell? ⟨gb415, 2, none⟩ = some (.slice A0_2 l0_2.length c0_2) := (blk_cell BK415.out 2).trans rfl; have hfz59_0 := blk_frozen BK415.out 0; have hfz59_1 := blk_frozen BK415.out 1; have hfz59_2 := blk_frozen BK415.out 2) | ((with_reducible refine gC (f := 29) rfl ?_); refine goesL_ (some 12) rfl rfl Try.func29 (by kernel_rfl) rfl #[.int .i64 a0_0, .int .i64 0, .int .i64 65535] rfl pA ?_; (with_reducible refine (impl_in.calls a0_0 0 65535 false _ A2.out).mono ?_); rintro e w' ⟨rfl, ⟨nd, rfl⟩⟩; refine ⟨_, rfl, ?_⟩))
   go_ret
   exact ⟨pE, pB⟩
def impl_isBase.f (a0_0 : Int) (l0_1 : List (S77)) (l0_2 : List (S80)) : Option (Bool) := some ((l0_1.length : Int) == 0)
theorem impl_isBase.calls (a0_0 : Int) (A0_1 : Option Addr) (c0_1 : Nat) (l0_1 : List (S77)) (A0_2 : Option Addr) (c0_2 : Nat) (l0_2 : List (S80)) (r : Bool) (w : World) (hr0_1 : Kd.C k77 w A0_1 l0_1.length l0_1) (hc0_1 : l0_1.length ≤ c0_1) (hr0_2 : Kd.C k80 w A0_2 l0_2.length l0_2) (hc0_2 : l0_2.length ≤ c0_2) (h : impl_isBase.f a0_0 l0_1 l0_2 = some r) :
 Calls Try.prog 32 #[.agg #[.int .i64 a0_0, .slice A0_1 l0_1.length c0_1, .slice A0_2 l0_2.length c0_2]] w fun e w' => e = .returned (.bool r) ∧ Below w.heap.size w w' := by
 have hu54 := Try.underlying54
 have HR0_1 := am hr0_1; have HC0_1 := am hc0_1; clear hr0_1 hc0_1; have HR0_2 := am hr0_2; have HC0_2 := am hc0_2; clear hr0_2 hc0_2
 have HB := am (Below.refl w.heap.size w)
 have H : (some ((l0_1.length : Int) == 0)) = some r := h
 clear h
 obtain rfl := sj H
 go_enter Try.func32, Try.ntmps32
 go_wp2_with (first | ((with_reducible refine gate_dst (N := 1) rfl ?_); refine box_event ?hg (N := 1) ?hd (cs := #[.int .i64 a0_0, .slice A0_1 l0_1.length c0_1, .slice A0_2 l0_2.length c0_2]) (t := 54) ?hr ?_; (case hd => rfl); (case hg => rfl); (case hr => first | (go_simp; done) | (go_simp; rfl)); intro gb431 hg w2 hbox hb; have n_ := t4 (bz_ pB hb) (hbox) ((by rw [hg]; exact (bs_ pB) : w.heap.size ≤ gb431)) ((by rw [hg]; exact (bs_ pB) : w.heap.size ≤ gb431)); clear HB; obtain ⟨HB, BK431, GW431, GE431⟩ := n_; clear hb hbox hg; have hcz3_0 : w2.cell? ⟨gb431, 0, none⟩ = some (.int .i64 a0_0) := (blk_cell BK431.out 0).trans rfl; have hcz3_1 : w2.cell? ⟨gb431, 1, none⟩ = some (.slice A0_1 l0_1.length c0_1) := (blk_cell BK431.out 1).trans rfl; have hcz3_2 : w2.cell? ⟨gb431, 2, none⟩ = some (.slice A0_2 l0_2.length c0_2) := (blk_cell BK431.out 2).trans rfl; have hfz3_0 := blk_frozen BK431.out 0; have hfz3_1 := blk_frozen BK431.out 1; have hfz3_2 := blk_frozen BK431.out 2))
 go_ret
 exact ⟨pE, pB⟩
def impl_sumsFault_1.f (a0 : Int) : Option (Bool) := (impl_isSum.f a0).bind fun t432 => (some (!t432))
theorem impl_sumsFault_1.calls (a0 : Int) (r : Bool) (w : World) (h : impl_sumsFault_1.f a0 = some r) :
 Calls Try.prog 87 #[.int .i64 a0] w fun e w' => e = .returned (.bool r) ∧ Drawn0 w w' := by
 have H : ((impl_isSum.f a0).bind fun t432 => (some (!t432))) = some r := h
 clear h
 obtain ⟨t432, A20, H⟩ := bO H
 replace H : (some (!t432)) = some r := H
 have A2 := am A20; clear A20
 obtain rfl := sj H
 go_enter Try.func87, Try.ntmps87
 go_wp2_with (first | ((with_reducible refine gC (f := 28) rfl ?_); refine goesL_ (some 4) rfl rfl Try.func28 (by kernel_rfl) rfl #[.int .i64 a0] rfl pA ?_; (with_reducible refine (impl_isSum.calls a0 t432 _ A2.out).mono ?_); rintro e w' ⟨rfl, ⟨nd, rfl⟩⟩; refine ⟨_, rfl, ?_⟩))
 go_ret
 exact ⟨by first | rfl | (simp; done) | (simp [*]; done), pW⟩
def slices_IndexFunc_at_impl_sumsFault_1.l0 : Nat → List Int → Int → Int → Option (Int)
 | 0, _, _, _ => none
 | k + 1, x0, x7, x8 => if x8 < x7 then (if 0 ≤ x8 then (if x8 < (x0.length : Int) then ((impl_sumsFault_1.f (rd x0 x8)).bind fun t434 => (if t434 = true then (some x8) else (slices_IndexFunc_at_impl_sumsFault_1.l0 k x0 x7 (wrap64 (x8 + 1))))) else (none)) else (none)) else (some (-1))
def slices_IndexFunc_at_impl_sumsFault_1.f (k : Nat) (l0 : List Int) : Option (Int) := slices_IndexFunc_at_impl_sumsFault_1.l0 k l0 (l0.length : Int) 0
theorem slices_IndexFunc_at_impl_sumsFault_1.mono_l : ∀ k, (∀ y0 y1 y2, LeO (slices_IndexFunc_at_impl_sumsFault_1.l0 k y0 y1 y2) (slices_IndexFunc_at_impl_sumsFault_1.l0 (k + 1) y0 y1 y2))
 | 0 => fun _ _ _ r h => by simp [slices_IndexFunc_at_impl_sumsFault_1.l0] at h
 | k + 1 => by
  have ih0 := slices_IndexFunc_at_impl_sumsFault_1.mono_l k
  · intro y0 y1 y2
    unfold slices_IndexFunc_at_impl_sumsFault_1.l0
    repeat' with_reducible first | exact ih0 _ _ _ | exact LeO.refl _ | exact LeO.none _ | refine LeO.ite ?_ ?_ | refine LeO.bind ?_ (fun _ => ?_)
theorem slices_IndexFunc_at_impl_sumsFault_1.mono : ∀ a0 k, LeO (slices_IndexFunc_at_impl_sumsFault_1.f k a0) (slices_IndexFunc_at_impl_sumsFault_1.f (k + 1) a0) := by
 intro a0 k
 have ih0 := slices_IndexFunc_at_impl_sumsFault_1.mono_l k
 unfold slices_IndexFunc_at_impl_sumsFault_1.f
 repeat' with_reducible first | exact ih0 _ _ _ | exact LeO.refl _ | exact LeO.none _ | refine LeO.ite ?_ ?_ | refine LeO.bind ?_ (fun _ => ?_)
theorem slices_IndexFunc_at_impl_sumsFault_1.calls (k : Nat) (A0 : Option Addr) (c0 : Nat) (l0 : List Int) (r : Int) (w : World) (hr0 : Kd.C (Kd.int .i64) w A0 l0.length l0) (hc0 : l0.length ≤ c0) (h : slices_IndexFunc_at_impl_sumsFault_1.f k l0 = some r) :
 Calls Try.prog 85 #[.slice A0 l0.length c0, .func (.func 87) #[] #[]] w fun e w' => e = .returned (.int .i64 r) ∧ Drawn0 w w' := by
 have HR0 := am hr0; have HC0 := am hc0; clear hr0 hc0
 have H : (slices_IndexFunc_at_impl_sumsFault_1.l0 k l0 (l0.length : Int) 0) = some r := h
 clear h
 have H' := am H
 clear H
 go_enter Try.func85, Try.ntmps85
 go_wp2
 go_loopg [8] k (fun kq v8 w' => ∃ (x8_1 : Int), v8 = .int .i64 x8_1 ∧ Aside0 (slices_IndexFunc_at_impl_sumsFault_1.l0 kq l0 (l0.length : Int) x8_1 = some r) ∧ Aside0 (kq ≤ k) ∧ Drawn0 w w')
 case atStart => exact ⟨(0), pF, H', ⟨Nat.le_refl _⟩, pW⟩
 case round =>
  clear H'
  obtain ⟨x8_1, rfl, HA, HK1, ⟨m1, rfl⟩⟩ := hrel
  cases gk with
  | zero => exact absurd HA.out (by simp [slices_IndexFunc_at_impl_sumsFault_1.l0])
  | succ k1 =>
   have H := HA.out
   clear HA
   simp only [slices_IndexFunc_at_impl_sumsFault_1.l0] at H
   by_cases c2 : x8_1 < (l0.length : Int)
   · rw [if_pos c2] at H
     have c2b0 : decide (x8_1 < (l0.length : Int)) = true := dt c2
     clear c2
     by_cases c3 : 0 ≤ x8_1
     · rw [if_pos c3] at H
       have c3b0 : decide (0 ≤ x8_1) = true := dt c3
       clear c3
       by_cases c4 : x8_1 < (l0.length : Int)
       · rw [if_pos c4] at H
         have c4b0 : decide (x8_1 < (l0.length : Int)) = true := dt c4
         clear c4
         obtain ⟨t434, A50, H⟩ := bO H
         replace H : (if t434 = true then (some x8_1) else (slices_IndexFunc_at_impl_sumsFault_1.l0 k1 l0 (l0.length : Int) (wrap64 (x8_1 + 1)))) = some r := H
         have A5 := am A50; clear A50
         by_cases c6 : t434 = true
         · subst c6
           have H1 : (some x8_1) = some r := by rw [if_pos rfl] at H; exact H
           clear H; have H := H1; clear H1
           obtain rfl := sj H
           have p433 : 0 ≤ (x8_1 : Int) := pD
           have q433 : x8_1 < (l0.length : Int) := pD
           obtain ⟨ad433, e433, hx433_0⟩ := Kd.at_int HR0.out x8_1 p433 q433
           cases e433; replace p433 := eq_true p433; replace q433 := eq_true q433
           go_wp2_with (first | ((with_reducible refine gate_value (x := .tmp 11) rfl ?_); refine goesV_ (some 16) rfl rfl Try.func87 (by kernel_rfl) rfl (x := .tmp 11) rfl #[.int .i64 (rd l0 x8_1)] rfl pA ?_; (with_reducible refine (impl_sumsFault_1.calls (rd l0 x8_1) true _ A5.out).mono ?_); rintro e w' ⟨rfl, ⟨nd, rfl⟩⟩; refine ⟨_, rfl, ?_⟩))
           go_ret
           exact ⟨by first | rfl | (simp; done) | (simp [*]; done), pW⟩
         · replace c6 := Bool.eq_false_iff.mpr c6
           subst c6
           have H1 : (slices_IndexFunc_at_impl_sumsFault_1.l0 k1 l0 (l0.length : Int) (wrap64 (x8_1 + 1))) = some r := by rw [if_neg (show ¬ (false = true) by decide)] at H; exact H
           clear H; have H := H1; clear H1
           have H' := am H
           clear H
           have p433 : 0 ≤ (x8_1 : Int) := pD
           have q433 : x8_1 < (l0.length : Int) := pD
           obtain ⟨ad433, e433, hx433_0⟩ := Kd.at_int HR0.out x8_1 p433 q433
           cases e433; replace p433 := eq_true p433; replace q433 := eq_true q433
           go_wp2_with (first | ((with_reducible refine gate_value (x := .tmp 11) rfl ?_); refine goesV_ (some 16) rfl rfl Try.func87 (by kernel_rfl) rfl (x := .tmp 11) rfl #[.int .i64 (rd l0 x8_1)] rfl pA ?_; (with_reducible refine (impl_sumsFault_1.calls (rd l0 x8_1) false _ A5.out).mono ?_); rintro e w' ⟨rfl, ⟨nd, rfl⟩⟩; refine ⟨_, rfl, ?_⟩))
           go_roundg k1
           case measure => have := HK1.out; omega
           case rel => exact ⟨(wrap64 (x8_1 + 1)), pF, H', ⟨by have := HK1.out; omega⟩, pW⟩
       · rw [if_neg c4] at H
         exact absurd H (by simp)
     · rw [if_neg c3] at H
       exact absurd H (by simp)
   · rw [if_neg c2] at H
     have c2b0 : decide (x8_1 < (l0.length : Int)) = false := decide_eq_false c2
     clear c2
     obtain rfl := sj H
     go_wp2
     go_ret
     exact ⟨by first | rfl | (simp; done) | (simp [*]; done), pW⟩
end Go.Proofs.Ytjmdfghljlmfmaa.QFnExactHeaderSum
