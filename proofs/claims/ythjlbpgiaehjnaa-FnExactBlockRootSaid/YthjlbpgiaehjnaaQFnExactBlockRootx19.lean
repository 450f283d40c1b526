-- written by this session's program (wip/tools/myprint.py)
import Derived.Test.YthjlbpgiaehjnaaQFnExactBlockRootx0
import Derived.Test.YthjlbpgiaehjnaaQFnExactBlockRootx15
import Derived.Test.YthjlbpgiaehjnaaQFnExactBlockRootx18
-- squeezed
namespace Go.Proofs.Ythjlbpgiaehjnaa.QFnExactBlockRoot
open Go.RowKit Go.Proofs.YthjlbpgiaehjnaaW.PrintWords Go.Proofs.YthjlbpgiaehjnaaW.PrintLast Go.Proofs.YthjlbpgiaehjnaaW.PrintMore
attribute [local go_sem] max2_int min2_int max_two min_two max_three min_three max_four min_four   -- for this text's walks alone
set_option linter.unusedVariables false
set_option linter.unusedSimpArgs false
set_option maxHeartbeats 8000000
set_option maxRecDepth 100000
def impl_txSum.l0 : Nat → List (S34) → Int → Int → Int → List (S34) → List (S86) → Option (Int)
 | 0, _, _, _, _, _, _ => none
 | k + 1, x12, x13, x14, x577000, x577001, x577002 => if x14 < x13 then (if 0 ≤ x14 then (if x14 < (x12.length : Int) then (if x577001.length < 3518437208883 then (impl_txSum.l0 k x12 x13 (wrap64 (x14 + 1)) x577000 (x577001 ++ [(⟨(rd_T34 x12 x14).f0, (rd_T34 x12 x14).f1, ([] : List Int)⟩ : S34)]) x577002) else (none)) else (none)) else (none)) else ((impl_packTx.f k x577000 x577001 x577002).bind fun t582 => ((impl_sumOf.f k t582).bind fun t585 => (some t585)))
def impl_txSum.f (k : Nat) (a0_0 : Int) (l0_1 : List (S34)) (l0_2 : List (S86)) : Option (Int) := impl_txSum.l0 k l0_1 (l0_1.length : Int) 0 a0_0 ([] : List (S34)) l0_2
theorem impl_txSum.mono_l : ∀ k, (∀ y0 y1 y2 y3 y4 y5, LeO (impl_txSum.l0 k y0 y1 y2 y3 y4 y5) (impl_txSum.l0 (k + 1) y0 y1 y2 y3 y4 y5))
 | 0 => fun _ _ _ _ _ _ r h => by simp [impl_txSum.l0] at h
 | k + 1 => by
  have ih0 := impl_txSum.mono_l k
  · intro y0 y1 y2 y3 y4 y5
    unfold impl_txSum.l0
    repeat' with_reducible first | exact ih0 _ _ _ _ _ _ | exact impl_packTx.mono _ _ _ _ | exact impl_sumOf.mono _ _ | exact LeO.refl _ | exact LeO.none _ | refine LeO.ite ?_ ?_ | refine LeO.bind ?_ (fun _ => ?_)
theorem impl_txSum.mono : ∀ a0 a1 a2 k, LeO (impl_txSum.f k a0 a1 a2) (impl_txSum.f (k + 1) a0 a1 a2) := by
 intro a0 a1 a2 k
 have ih0 := impl_txSum.mono_l k
 unfold impl_txSum.f
 repeat' with_reducible first | exact ih0 _ _ _ _ _ _ | exact impl_packTx.mono _ _ _ _ | exact impl_sumOf.mono _ _ | exact LeO.refl _ | exact LeO.none _ | refine LeO.ite ?_ ?_ | refine LeO.bind ?_ (fun _ => ?_)
theorem impl_txSum.calls (k : Nat) (a0_0 : Int) (A0_1 : Option Addr) (c0_1 : Nat) (l0_1 : List (S34)) (A0_2 : Option Addr) (c0_2 : Nat) (l0_2 : List (S86)) (r : Int) (w : World) (hr0_1 : Kd.C k34 w A0_1 l0_1.length l0_1) (hc0_1 : l0_1.length ≤ c0_1) (hr0_2 : Kd.C k86 w A0_2 l0_2.length l0_2) (hc0_2 : l0_2.length ≤ c0_2) (h : impl_txSum.f k a0_0 l0_1 l0_2 = some r) :
 Calls Try.prog 52 #[.agg #[.int .i64 a0_0, .slice A0_1 l0_1.length c0_1, .slice A0_2 l0_2.length c0_2]] w fun e w' => e = .returned (.int .i64 r) ∧ Below w.heap.size w w' := by
 have hu27 := Try.underlying27
 have hu34 := Try.underlying34
 have HR0_1 := am hr0_1; have HC0_1 := am hc0_1; clear hr0_1 hc0_1; have HR0_2 := am hr0_2; have HC0_2 := am hc0_2; clear hr0_2 hc0_2
 have HB := am (Below.refl w.heap.size w)
 have H : (impl_txSum.l0 k l0_1 (l0_1.length : Int) 0 a0_0 ([] : List (S34)) l0_2) = some r := h
 clear h
 have H' := am H
 clear H
 go_enter Try.func52, Try.ntmps52
 go_wp2_with (first | ((with_reducible refine gate_dst (N := 1) rfl ?_); refine box_event ?hg (N := 1) ?hd (cs := #[.int .i64 a0_0, .slice A0_1 l0_1.length c0_1, .slice A0_2 l0_2.length c0_2]) (t := 27) ?hr ?_; (case hd => rfl); (case hg => rfl); (case hr => first | (go_simp; done) | (go_simp; rfl)); intro gb575 hg w2 hbox hb; have n_ := t4 (bz_ pB hb) (hbox) ((by rw [hg]; exact (bs_ pB) : w.heap.size ≤ gb575)) ((by rw [hg]; exact (bs_ pB) : w.heap.size ≤ gb575)); clear HB; obtain ⟨HB, BK575, GW575, GE575⟩ := n_; clear hb hbox hg; have hcz3_0 : w2.cell? ⟨gb575, 0, none⟩ = some (.int .i64 a0_0) := (blk_cell BK575.out 0).trans rfl; have hcz3_1 : w2.cell? ⟨gb575, 1, none⟩ = some (.slice A0_1 l0_1.length c0_1) := (blk_cell BK575.out 1).trans rfl; have hcz3_2 : w2.cell? ⟨gb575, 2, none⟩ = some (.slice A0_2 l0_2.length c0_2) := (blk_cell BK575.out 2).trans rfl; have hfz3_0 := blk_frozen BK575.out 0; have hfz3_1 := blk_frozen BK575.out 1; have hfz3_2 := blk_frozen BK575.out 2) | ((with_reducible refine gate_dst (N := 3) rfl ?_); refine box_event ?hg (N := 3) ?hd (cs := #[.int .i64 0, .slice none 0 0, .slice none 0 0]) (t := 27) ?hr ?_; (case hd => rfl); (case hg => rfl); (case hr => first | (go_simp; done) | (go_simp; rfl)); intro gb576 hg w4 hbox hb; have n_ := t7 (blk_below (g := gb575) (o := .cells #[.int .i64 a0_0, .slice A0_1 l0_1.length c0_1, .slice A0_2 l0_2.length c0_2] 27 (0, 0)) (pK BK575) hb) (bz_ pB hb) (hbox) ((by rw [hg]; exact (bs_ pB) : w.heap.size ≤ gb576)) ((by rw [hg]; exact (bs_ pB) : w.heap.size ≤ gb576)) ((by rw [hg]; exact Nat.ne_of_lt (blk_lt (g := gb575) (o := .cells #[.int .i64 a0_0, .slice A0_1 l0_1.length c0_1, .slice A0_2 l0_2.length c0_2] 27 (0, 0)) (pK BK575)) : gb575 ≠ gb576)) ((by rw [hg]; exact Nat.ne_of_gt (blk_lt (g := gb575) (o := .cells #[.int .i64 a0_0, .slice A0_1 l0_1.length c0_1, .slice A0_2 l0_2.length c0_2] 27 (0, 0)) (pK BK575)) : gb576 ≠ gb575)); clear BK575 HB; obtain ⟨BK575, HB, BK576, GW576, GE576, NB575_576, NB576_575⟩ := n_; clear hb hbox hg; have hnb5 := NB576_575.out; have hnc5 := NB575_576.out; have hcz6_0 : w4.cell? ⟨gb576, 0, none⟩ = some (.int .i64 0) := (blk_cell BK576.out 0).trans rfl; have hcz6_1 : w4.cell? ⟨gb576, 1, none⟩ = some (.slice none 0 0) := (blk_cell BK576.out 1).trans rfl; have hcz6_2 : w4.cell? ⟨gb576, 2, none⟩ = some (.slice none 0 0) := (blk_cell BK576.out 2).trans rfl; have hfz6_0 := blk_frozen BK576.out 0; have hfz6_1 := blk_frozen BK576.out 1; have hfz6_2 := blk_frozen BK576.out 2; have hcz7_0 : w4.cell? ⟨gb575, 0, none⟩ = some (.int .i64 a0_0) := (blk_cell BK575.out 0).trans rfl; have hcz7_1 : w4.cell? ⟨gb575, 1, none⟩ = some (.slice A0_1 l0_1.length c0_1) := (blk_cell BK575.out 1).trans rfl; have hcz7_2 : w4.cell? ⟨gb575, 2, none⟩ = some (.slice A0_2 l0_2.length c0_2) := (blk_cell BK575.out 2).trans rfl; have hfz7_0 := blk_frozen BK575.out 0; have hfz7_1 := blk_frozen BK575.out 1; have hfz7_2 := blk_frozen BK575.out 2))
 go_loopg [14] k (fun kq v14 w' => ∃ (x14_1 : Int) (x577001_1 : List (S34)) (u577001 : Value), v14 = .int .i64 x14_1 ∧ Aside0 (impl_txSum.l0 kq l0_1 (l0_1.length : Int) x14_1 a0_0 x577001_1 l0_2 = some r) ∧ Aside0 (kq ≤ k) ∧ Aside0 (Kd.S k34 34 w' w.heap.size (fun _ => True) u577001 x577001_1) ∧ Aside0 (w'.heap[gb575]? = some (.cells #[.int .i64 a0_0, (.slice A0_1 l0_1.length c0_1), (.slice A0_2 l0_2.length c0_2)] 27 (0, 0))) ∧ Aside0 (w'.heap[gb576]? = some (.cells #[.int .i64 a0_0, u577001, (.slice A0_2 l0_2.length c0_2)] 27 (0, 0))) ∧ Aside0 (Below w.heap.size w w'))
 case atStart => exact ⟨(0), (([] : List (S34))), (.slice none 0 0), pF, H', ⟨Nat.le_refl _⟩, ⟨by first | exact Kd.S_nil _ _ _ _ _ | exact Kd.N_nil _ _ _ _ _ | exact Kd.V_nil _ _ _ _ _ | exact Kd.Q_nil _ _ _ _ _ | exact Kd.R_nil _ _ _ _ _⟩, ⟨by (with_reducible repeat (first | refine blk_drewN ?_ _ | refine blk_drew ?_ | refine blk_alloc ?_ _)); refine blk_far ?_ NB575_576.out _; (with_reducible repeat (first | refine blk_drewN ?_ _ | refine blk_drew ?_ | refine blk_alloc ?_ _)); refine blk_far ?_ NB575_576.out _; (with_reducible repeat (first | refine blk_drewN ?_ _ | refine blk_drew ?_ | refine blk_alloc ?_ _)); refine blk_far ?_ NB575_576.out _; (with_reducible repeat (first | refine blk_drewN ?_ _ | refine blk_drew ?_ | refine blk_alloc ?_ _)); exact BK575.out⟩, ⟨by (with_reducible repeat (first | refine blk_drewN ?_ _ | refine blk_drew ?_ | refine blk_alloc ?_ _)); refine blk_put (cs := #[.int .i64 a0_0, .slice none 0 0, .slice none 0 0]) ?_ 2 _ rfl; (with_reducible repeat (first | refine blk_drewN ?_ _ | refine blk_drew ?_ | refine blk_alloc ?_ _)); refine blk_put (cs := #[.int .i64 a0_0, .slice none 0 0, .slice none 0 0]) ?_ 1 _ rfl; (with_reducible repeat (first | refine blk_drewN ?_ _ | refine blk_drew ?_ | refine blk_alloc ?_ _)); refine blk_put (cs := #[.int .i64 0, .slice none 0 0, .slice none 0 0]) ?_ 0 _ rfl; (with_reducible repeat (first | refine blk_drewN ?_ _ | refine blk_drew ?_ | refine blk_alloc ?_ _)); exact BK576.out⟩, ⟨pB⟩⟩
 case round =>
  clear H'
  (try clear hcz3_0); (try clear hcz3_1); (try clear hcz3_2); (try clear hcz6_0); (try clear hcz6_1); (try clear hcz6_2); (try clear hcz7_0); (try clear hcz7_1); (try clear hcz7_2); (try clear hfz3_0); (try clear hfz3_1); (try clear hfz3_2); (try clear hfz6_0); (try clear hfz6_1); (try clear hfz6_2); (try clear hfz7_0); (try clear hfz7_1); (try clear hfz7_2)
  obtain ⟨x14_1, x577001_1, u577001, rfl, HA, HK1, HO_577001, BK575, BK576, HB⟩ := hrel
  cases gk with
  | zero => exact absurd HA.out (by simp [impl_txSum.l0])
  | succ k1 =>
   have H := HA.out
   clear HA
   simp only [impl_txSum.l0] at H
   by_cases c8 : x14_1 < (l0_1.length : Int)
   · rw [if_pos c8] at H
     have c8b0 : decide (x14_1 < (l0_1.length : Int)) = true := dt c8
     clear c8
     by_cases c9 : 0 ≤ x14_1
     · rw [if_pos c9] at H
       have c9b0 : decide (0 ≤ x14_1) = true := dt c9
       clear c9
       by_cases c10 : x14_1 < (l0_1.length : Int)
       · rw [if_pos c10] at H
         have c10b0 : decide (x14_1 < (l0_1.length : Int)) = true := dt c10
         clear c10
         by_cases c11 : x577001_1.length < 3518437208883
         · rw [if_pos c11] at H
           have LMc11 := am c11; clear c11
           obtain ⟨y579, hy579⟩ : ∃ y_ : List (S34), y_ = (x577001_1 ++ [(⟨(rd_T34 l0_1 x14_1).f0, (rd_T34 l0_1 x14_1).f1, ([] : List Int)⟩ : S34)]) := ⟨_, rfl⟩
           replace H : (impl_txSum.l0 k1 l0_1 (l0_1.length : Int) (wrap64 (x14_1 + 1)) a0_0 y579 l0_2) = some r := by first | (rw [hy579]; with_reducible exact H) | (have H2_ := (Option.bind_some _ _).symm.trans H; rw [hy579]; with_reducible exact H2_) | (have H2_ := (Option.bind_some _ _).symm.trans H; with_reducible exact H2_) | with_reducible exact H | (rw [hy579]; exact H) | exact H
           have Ny579 := am hy579; clear hy579
           have H' := am H
           clear H
           have p577 : 0 ≤ (x14_1 : Int) := pD
           have q577 : x14_1 < (l0_1.length : Int) := pD
           obtain ⟨ad577, A577_2, c577_2, e577, hx577_0, hx577_1, hx577_2, hl577_2, hi577_2⟩ := at_T34 HR0_1.out x14_1 p577 q577
           cases e577; replace hx577_0 := cb HB hx577_0; replace hx577_1 := cb HB hx577_1; replace hx577_2 := cb HB hx577_2; have HR577_2 := am hi577_2; have HC577_2 := am hl577_2; clear hi577_2 hl577_2; replace p577 := eq_true p577; replace q577 := eq_true q577
           go_wp2_with (first | ((with_reducible refine gate_dst (N := 5) rfl ?_); refine box_event ?hg (N := 5) ?hd (cs := #[.int .i64 0, .int .i64 0, .slice none 0 0]) (t := 34) ?hr ?_; (case hd => rfl); (case hg => rfl); (case hr => first | (go_simp; done) | (go_simp; rfl)); intro gb578 hg w12 hbox hb; have n0_ := am (Kd.S_below (Kd.S_elderB (by (with_reducible repeat (first | apply Kd.S_alloc | apply Kd.S_drewN | apply Kd.S_drew)); exact HO_577001.out) gb578 (Nat.le_of_eq hg.symm)) hb); have n1_ := am (blk_below (g := gb575) (o := .cells #[.int .i64 a0_0, .slice (some ad577) l0_1.length c0_1, .slice A0_2 l0_2.length c0_2] 27 (0, 0)) (pK BK575) hb); have n2_ := am (blk_below (g := gb576) (o := .cells #[.int .i64 a0_0, u577001, .slice A0_2 l0_2.length c0_2] 27 (0, 0)) (pK BK576) hb); have n3_ := am (bz_ pB hb); have n4_ := am (hbox); have n5_ := am ((by rw [hg]; exact (bs_ pB) : w.heap.size ≤ gb578)); have n6_ := am ((by rw [hg]; exact (bs_ pB) : w.heap.size ≤ gb578)); have n7_ := am ((by rw [hg]; exact Nat.ne_of_lt (blk_lt (g := gb575) (o := .cells #[.int .i64 a0_0, .slice (some ad577) l0_1.length c0_1, .slice A0_2 l0_2.length c0_2] 27 (0, 0)) (pK BK575)) : gb575 ≠ gb578)); have n8_ := am ((by rw [hg]; exact Nat.ne_of_gt (blk_lt (g := gb575) (o := .cells #[.int .i64 a0_0, .slice (some ad577) l0_1.length c0_1, .slice A0_2 l0_2.length c0_2] 27 (0, 0)) (pK BK575)) : gb578 ≠ gb575)); have n9_ := am ((by rw [hg]; exact Nat.ne_of_lt (blk_lt (g := gb576) (o := .cells #[.int .i64 a0_0, u577001, .slice A0_2 l0_2.length c0_2] 27 (0, 0)) (pK BK576)) : gb576 ≠ gb578)); have n10_ := am ((by rw [hg]; exact Nat.ne_of_gt (blk_lt (g := gb576) (o := .cells #[.int .i64 a0_0, u577001, .slice A0_2 l0_2.length c0_2] 27 (0, 0)) (pK BK576)) : gb578 ≠ gb576)); clear HO_577001; clear BK575; clear BK576; clear HB; have HO_577001 := n0_; have BK575 := n1_; have BK576 := n2_; have HB := n3_; have BK578 := n4_; have GW578 := n5_; have GE578 := n6_; have NB575_578 := n7_; have NB578_575 := n8_; have NB576_578 := n9_; have NB578_576 := n10_; clear n0_ n1_ n2_ n3_ n4_ n5_ n6_ n7_ n8_ n9_ n10_; clear hb hbox hg; have hnb13 := NB578_575.out; have hnc13 := NB575_578.out; have hnb14 := NB578_576.out; have hnc14 := NB576_578.out; have hcz15_0 : w12.cell? ⟨gb578, 0, none⟩ = some (.int .i64 0) := (blk_cell BK578.out 0).trans rfl; have hcz15_1 : w12.cell? ⟨gb578, 1, none⟩ = some (.int .i64 0) := (blk_cell BK578.out 1).trans rfl; have hcz15_2 : w12.cell? ⟨gb578, 2, none⟩ = some (.slice none 0 0) := (blk_cell BK578.out 2).trans rfl; have hfz15_0 := blk_frozen BK578.out 0; have hfz15_1 := blk_frozen BK578.out 1; have hfz15_2 := blk_frozen BK578.out 2; have hnb16 := NB576_575.out; have hnc16 := NB575_576.out; have hcz17_0 : w12.cell? ⟨gb576, 0, none⟩ = some (.int .i64 a0_0) := (blk_cell BK576.out 0).trans rfl; have hcz17_1 : w12.cell? ⟨gb576, 1, none⟩ = some (u577001) := (blk_cell BK576.out 1).trans rfl; have hcz17_2 : w12.cell? ⟨gb576, 2, none⟩ = some (.slice A0_2 l0_2.length c0_2) := (blk_cell BK576.out 2).trans rfl; have hfz17_0 := blk_frozen BK576.out 0; have hfz17_1 := blk_frozen BK576.out 1; have hfz17_2 := blk_frozen BK576.out 2) | ((with_reducible refine gB (b := .append) (xs := #[.tmp 19, .tmp 25]) rfl ?_); at_builtin; refine Kd.S_append k34 (w0 := w) w.heap.size rfl (.tmp 19) (.tmp 25) 24 34 (.agg #[(.int .i64 0), (.int .i64 0), (.slice none 0 0)]) 40 rfl Try.underlying24 info34 rfl (by decide) (by omega) u577001 x577001_1 (⟨(rd_T34 l0_1 x14_1).f0, (rd_T34 l0_1 x14_1).f1, ([] : List Int)⟩ : S34) [.int .i64 ((rd_T34 l0_1 x14_1).f0), .int .i64 ((rd_T34 l0_1 x14_1).f1), .slice none 0 0] (fun k_ => k_ ≠ gb578) (fun _ => False) rfl (by first | (go_simp; done) | (go_simp; rfl)) ?aP (fun k_ hk_ => hk_.elim) ?aF ?aO ?aB ?aS ?aL ?_; (case aP => exact k34_mkM _ _ _ (⟨(rd_T34 l0_1 x14_1).f0, (rd_T34 l0_1 x14_1).f1, ([] : List Int)⟩ : S34) (Kd.R_nil _ _ _ _ _)); (case aB => exact pB); (case aF => exact (fun k_ hk => Kd.freshB (g := gb578) (o := .cells #[.int .i64 ((rd_T34 l0_1 x14_1).f0), .int .i64 ((rd_T34 l0_1 x14_1).f1), .slice A577_2 ((rd_T34 l0_1 x14_1).f2).length c577_2] 34 (0, 0)) (by (with_reducible repeat (first | refine blk_drewN ?_ _ | refine blk_drew ?_ | refine blk_alloc ?_ _)); refine blk_put (cs := #[.int .i64 ((rd_T34 l0_1 x14_1).f0), .int .i64 ((rd_T34 l0_1 x14_1).f1), .slice none 0 0]) ?_ 2 _ rfl; (with_reducible repeat (first | refine blk_drewN ?_ _ | refine blk_drew ?_ | refine blk_alloc ?_ _)); refine blk_put (cs := #[.int .i64 ((rd_T34 l0_1 x14_1).f0), .int .i64 0, .slice none 0 0]) ?_ 1 _ rfl; (with_reducible repeat (first | refine blk_drewN ?_ _ | refine blk_drew ?_ | refine blk_alloc ?_ _)); refine blk_put (cs := #[.int .i64 0, .int .i64 0, .slice none 0 0]) ?_ 0 _ rfl; (with_reducible repeat (first | refine blk_drewN ?_ _ | refine blk_drew ?_ | refine blk_alloc ?_ _)); exact BK578.out) k_ hk)); (case aO => exact (by (with_reducible repeat (first | apply Kd.S_alloc | apply Kd.S_drewN | apply Kd.S_drew)); exact Kd.S_mono (Kd.S_far (p := ⟨gb578, 2, none⟩) (Kd.S_far (p := ⟨gb578, 1, none⟩) (Kd.S_far (p := ⟨gb578, 0, none⟩) (Kd.S_mono HO_577001.out (fun k_ hk => (⟨hk, hk.2⟩ : _ ∧ k_ ≠ gb578))) (fun _ hk => hk.2) (.int .i64 ((rd_T34 l0_1 x14_1).f0))) (fun _ hk => hk.2) (.int .i64 ((rd_T34 l0_1 x14_1).f1))) (fun _ hk => hk.2) (.slice A577_2 ((rd_T34 l0_1 x14_1).f2).length c577_2)) (fun k_ hk => ⟨hk.1.2, fun e_ => e_⟩))); (case aS => exact (bs_ pB)); (case aL => have := LMc11.out; omega); intro v580 w18 ho hb hg hat; rw [← Ny579.out] at ho; have n_ := t5 (blk_grown (g := gb575) (o := .cells #[.int .i64 a0_0, .slice (some ad577) l0_1.length c0_1, .slice A0_2 l0_2.length c0_2] 27 (0, 0)) (by (with_reducible repeat (first | refine blk_drewN ?_ _ | refine blk_drew ?_ | refine blk_alloc ?_ _)); refine blk_far ?_ NB575_578.out _; (with_reducible repeat (first | refine blk_drewN ?_ _ | refine blk_drew ?_ | refine blk_alloc ?_ _)); refine blk_far ?_ NB575_578.out _; (with_reducible repeat (first | refine blk_drewN ?_ _ | refine blk_drew ?_ | refine blk_alloc ?_ _)); refine blk_far ?_ NB575_578.out _; (with_reducible repeat (first | refine blk_drewN ?_ _ | refine blk_drew ?_ | refine blk_alloc ?_ _)); exact BK575.out) hg (Kd.S_ne HO_577001.out BK575.out (by decide))) (blk_grown (g := gb576) (o := .cells #[.int .i64 a0_0, u577001, .slice A0_2 l0_2.length c0_2] 27 (0, 0)) (by (with_reducible repeat (first | refine blk_drewN ?_ _ | refine blk_drew ?_ | refine blk_alloc ?_ _)); refine blk_far ?_ NB576_578.out _; (with_reducible repeat (first | refine blk_drewN ?_ _ | refine blk_drew ?_ | refine blk_alloc ?_ _)); refine blk_far ?_ NB576_578.out _; (with_reducible repeat (first | refine blk_drewN ?_ _ | refine blk_drew ?_ | refine blk_alloc ?_ _)); refine blk_far ?_ NB576_578.out _; (with_reducible repeat (first | refine blk_drewN ?_ _ | refine blk_drew ?_ | refine blk_alloc ?_ _)); exact BK576.out) hg (Kd.S_ne HO_577001.out BK576.out (by decide))) (blk_grown (g := gb578) (o := .cells #[.int .i64 ((rd_T34 l0_1 x14_1).f0), .int .i64 ((rd_T34 l0_1 x14_1).f1), .slice A577_2 ((rd_T34 l0_1 x14_1).f2).length c577_2] 34 (0, 0)) (by (with_reducible repeat (first | refine blk_drewN ?_ _ | refine blk_drew ?_ | refine blk_alloc ?_ _)); refine blk_put (cs := #[.int .i64 ((rd_T34 l0_1 x14_1).f0), .int .i64 ((rd_T34 l0_1 x14_1).f1), .slice none 0 0]) ?_ 2 _ rfl; (with_reducible repeat (first | refine blk_drewN ?_ _ | refine blk_drew ?_ | refine blk_alloc ?_ _)); refine blk_put (cs := #[.int .i64 ((rd_T34 l0_1 x14_1).f0), .int .i64 0, .slice none 0 0]) ?_ 1 _ rfl; (with_reducible repeat (first | refine blk_drewN ?_ _ | refine blk_drew ?_ | refine blk_alloc ?_ _)); refine blk_put (cs := #[.int .i64 0, .int .i64 0, .slice none 0 0]) ?_ 0 _ rfl; (with_reducible repeat (first | refine blk_drewN ?_ _ | refine blk_drew ?_ | refine blk_alloc ?_ _)); exact BK578.out) hg (Kd.S_away HO_577001.out (fun _ hk => hk.2))) (hb) (ho); clear BK575 BK576 BK578 HB HO_577001; obtain ⟨BK575, BK576, BK578, HB, HO581⟩ := n_; clear ho hb hg hat; obtain ⟨Ao19, co19, eo19⟩ := Kd.S_slice HO581.out; subst eo19; have hcz20_0 : w18.cell? ⟨gb576, 0, none⟩ = some (.int .i64 a0_0) := (blk_cell BK576.out 0).trans rfl; have hcz20_1 : w18.cell? ⟨gb576, 1, none⟩ = some (u577001) := (blk_cell BK576.out 1).trans rfl; have hcz20_2 : w18.cell? ⟨gb576, 2, none⟩ = some (.slice A0_2 l0_2.length c0_2) := (blk_cell BK576.out 2).trans rfl; have hfz20_0 := blk_frozen BK576.out 0; have hfz20_1 := blk_frozen BK576.out 1; have hfz20_2 := blk_frozen BK576.out 2))
           go_roundg k1
           case measure => have := HK1.out; omega
           case rel => exact ⟨(wrap64 (x14_1 + 1)), (y579), (.slice Ao19 y579.length co19), pF, H', ⟨by have := HK1.out; omega⟩, ⟨by (with_reducible repeat (first | apply Kd.S_alloc | apply Kd.S_drewN | apply Kd.S_drew)); exact Kd.S_mono (Kd.S_far (p := ⟨gb576, 1, none⟩) (Kd.S_types HO581.out BK576.out (by decide)) (fun _ hk => hk.2) (.slice Ao19 y579.length co19)) (fun _ hk => trivial)⟩, ⟨by (with_reducible repeat (first | refine blk_drewN ?_ _ | refine blk_drew ?_ | refine blk_alloc ?_ _)); refine blk_far ?_ NB575_576.out _; (with_reducible repeat (first | refine blk_drewN ?_ _ | refine blk_drew ?_ | refine blk_alloc ?_ _)); exact BK575.out⟩, ⟨by (with_reducible repeat (first | refine blk_drewN ?_ _ | refine blk_drew ?_ | refine blk_alloc ?_ _)); refine blk_put (cs := #[.int .i64 a0_0, u577001, .slice A0_2 l0_2.length c0_2]) ?_ 1 _ rfl; (with_reducible repeat (first | refine blk_drewN ?_ _ | refine blk_drew ?_ | refine blk_alloc ?_ _)); exact BK576.out⟩, ⟨pB⟩⟩
         · rw [if_neg c11] at H
           exact absurd H (by simp)
       · rw [if_neg c10] at H
         exact absurd H (by simp)
     · rw [if_neg c9] at H
       exact absurd H (by simp)
   · rw [if_neg c8] at H
     have c8b0 : decide (x14_1 < (l0_1.length : Int)) = false := decide_eq_false c8
     clear c8
     obtain ⟨t582, A210, H⟩ := bO H
     replace H : ((impl_sumOf.f k1 t582).bind fun t585 => (some t585)) = some r := H
     have A21 := am A210; clear A210
     obtain ⟨t585, A220, H⟩ := bO H
     replace H : (some t585) = some r := H
     have A22 := am A220; clear A220
     obtain rfl := sj H
     have hnb23 := NB576_575.out
     have hnc23 := NB575_576.out
     obtain ⟨hcz24_0, hcz24_1, hcz24_2, hfz24_0, hfz24_1, hfz24_2⟩ := bx3 BK576
     obtain ⟨Ao25, co25, eo25⟩ := Kd.S_slice HO_577001.out
     subst eo25
     go_wp2_with (first | ((with_reducible refine gC (f := 56) rfl ?_); refine goesL_ (some 30) rfl rfl Try.func56 (by kernel_rfl) rfl #[.agg #[.int .i64 a0_0, .slice Ao25 x577001_1.length co25, .slice A0_2 l0_2.length c0_2]] rfl pA ?_; (with_reducible refine (impl_packTx.calls k1 a0_0 _ _ x577001_1 _ _ l0_2 t582 _ ?side1 ?side2 ?side3 ?side4 A21.out).mono ?_); (case side1 => exact pC (Kd.S_reads' HO_577001.out).2.2); (case side2 => exact (Kd.S_reads' HO_577001.out).2.1); (case side3 => exact pC (Kd.C_below HR0_2.out HB.out)); (case side4 => exact HC0_2.out); rintro e w26 ⟨v583, rfl, ho0, hb⟩; refine ⟨_, rfl, ?_⟩; have n_ := t5 (Kd.S_below (by (with_reducible repeat (first | apply Kd.S_alloc | apply Kd.S_drewN | apply Kd.S_drew)); exact HO_577001.out) hb) (rL ho0 (bs_ pB)) (blk_below (g := gb575) (o := .cells #[.int .i64 a0_0, .slice A0_1 l0_1.length c0_1, .slice A0_2 l0_2.length c0_2] 27 (0, 0)) (pK BK575) hb) (blk_below (g := gb576) (o := .cells #[.int .i64 a0_0, .slice Ao25 x577001_1.length co25, .slice A0_2 l0_2.length c0_2] 27 (0, 0)) (pK BK576) hb) (bz_ pB hb); clear HO_577001 BK575 BK576 HB; obtain ⟨HO_577001, HO584, BK575, BK576, HB⟩ := n_; (try clear hb); (try clear ho0); obtain ⟨Ao27, co27, eo27⟩ := rS HO584.out; subst eo27) | ((with_reducible refine gC (f := 55) rfl ?_); refine goesL_ (some 31) rfl rfl Try.func55 (by kernel_rfl) rfl #[.slice Ao27 t582.length co27] rfl pA ?_; (with_reducible refine (impl_sumOf.calls k1 _ _ t582 t585 _ ?side1 ?side2 A22.out).mono ?_); (case side1 => exact pC (rr HO584.out).2.2); (case side2 => exact (rr HO584.out).2.1); rintro e w' ⟨rfl, ⟨nd, rfl⟩⟩; refine ⟨_, rfl, ?_⟩))
     go_ret
     exact ⟨pE, pB⟩
def impl_txSums.l0 : Nat → List Int → List (S27) → Int → Int → Option (List Int)
 | 0, _, _, _, _ => none
 | k + 1, x3, x8, x9, x10 => if x10 < x9 then (if 0 ≤ x10 then (if x10 < (x8.length : Int) then ((impl_txSum.f k ((rd_T27 x8 x10).f0) ((rd_T27 x8 x10).f1) ((rd_T27 x8 x10).f2)).bind fun t592 => (if x3.length < 17592186044416 then (impl_txSums.l0 k (x3 ++ [t592]) x8 x9 (wrap64 (x10 + 1))) else (none))) else (none)) else (none)) else (some x3)
def impl_txSums.f (k : Nat) (a0_0 : Int) (a0_1 : Int) (a0_2 : Int) (a0_3 : Int) (l0_4 : List (S27)) : Option (List Int) := impl_txSums.l0 k (([] : List Int)) l0_4 (l0_4.length : Int) 0
theorem impl_txSums.mono_l : ∀ k, (∀ y0 y1 y2 y3, LeO (impl_txSums.l0 k y0 y1 y2 y3) (impl_txSums.l0 (k + 1) y0 y1 y2 y3))
 | 0 => fun _ _ _ _ r h => by simp [impl_txSums.l0] at h
 | k + 1 => by
  have ih0 := impl_txSums.mono_l k
  · intro y0 y1 y2 y3
    unfold impl_txSums.l0
    repeat' with_reducible first | exact ih0 _ _ _ _ | exact impl_txSum.mono _ _ _ _ | exact LeO.refl _ | exact LeO.none _ | refine LeO.ite ?_ ?_ | refine LeO.bind ?_ (fun _ => ?_)
theorem impl_txSums.mono : ∀ a0 a1 a2 a3 a4 k, LeO (impl_txSums.f k a0 a1 a2 a3 a4) (impl_txSums.f (k + 1) a0 a1 a2 a3 a4) := by
 intro a0 a1 a2 a3 a4 k
 have ih0 := impl_txSums.mono_l k
 unfold impl_txSums.f
 repeat' with_reducible first | exact ih0 _ _ _ _ | exact impl_txSum.mono _ _ _ _ | exact LeO.refl _ | exact LeO.none _ | refine LeO.ite ?_ ?_ | refine LeO.bind ?_ (fun _ => ?_)
theorem impl_txSums.calls (k : Nat) (a0_0 : Int) (a0_1 : Int) (a0_2 : Int) (a0_3 : Int) (A0_4 : Option Addr) (c0_4 : Nat) (l0_4 : List (S27)) (r : List Int) (w : World) (hr0_4 : Kd.C k27 w A0_4 l0_4.length l0_4) (hc0_4 : l0_4.length ≤ c0_4) (h : impl_txSums.f k a0_0 a0_1 a0_2 a0_3 l0_4 = some r) :
 Calls Try.prog 95 #[.agg #[.int .i64 a0_0, .int .i64 a0_1, .int .i64 a0_2, .int .i64 a0_3, .slice A0_4 l0_4.length c0_4]] w fun e w' => ∃ v0_ : Value, e = .returned (v0_) ∧ Kd.R (Kd.int .i64) 2 w' w.heap.size (fun _ => True) v0_ r ∧ Below w.heap.size w w' := by
 have hu72 := Try.underlying72
 have hu27 := Try.underlying27
 have HR0_4 := am hr0_4; have HC0_4 := am hc0_4; clear hr0_4 hc0_4
 have HB := am (Below.refl w.heap.size w)
 have H : (impl_txSums.l0 k (([] : List Int)) l0_4 (l0_4.length : Int) 0) = some r := h
 clear h
 obtain ⟨y587, hy587⟩ : ∃ y_ : List Int, y_ = (([] : List Int)) := ⟨_, rfl⟩
 replace H : (impl_txSums.l0 k y587 l0_4 (l0_4.length : Int) 0) = some r := by first | (rw [hy587]; with_reducible exact H) | (have H2_ := (Option.bind_some _ _).symm.trans H; rw [hy587]; with_reducible exact H2_) | (have H2_ := (Option.bind_some _ _).symm.trans H; with_reducible exact H2_) | with_reducible exact H | (rw [hy587]; exact H) | exact H
 have Ny587 := am hy587; clear hy587
 have H' := am H
 clear H
 go_enter Try.func95, Try.ntmps95
 go_wp2_with (first | ((with_reducible refine gate_dst (N := 1) rfl ?_); refine box_event ?hg (N := 1) ?hd (cs := #[.int .i64 a0_0, .int .i64 a0_1, .int .i64 a0_2, .int .i64 a0_3, .slice A0_4 l0_4.length c0_4]) (t := 72) ?hr ?_; (case hd => rfl); (case hg => rfl); (case hr => first | (go_simp; done) | (go_simp; rfl)); intro gb586 hg w2 hbox hb; have n_ := t4 (bz_ pB hb) (hbox) ((by rw [hg]; exact (bs_ pB) : w.heap.size ≤ gb586)) ((by rw [hg]; exact (bs_ pB) : w.heap.size ≤ gb586)); clear HB; obtain ⟨HB, BK586, GW586, GE586⟩ := n_; clear hb hbox hg) | ((with_reducible refine gate_dst (N := 6) rfl ?_); refine Kd.R_lit (Kd.int .i64) _ 2 ?hg (N := 6) ?hd (xs := ([] : List Int)) (inner := []) (ok := fun _ => True) (okp := fun _ => True) ?hr ?hp (fun _ hk => hk) trivial (Below.refl _ _) (Nat.le_refl _) (by simp) ?_; (case hd => rfl); (case hg => rfl); (case hr => first | (go_simp; done) | (go_simp; rfl)); (case hp => exact (Reps.none _ _)); intro v588 w3 ho4 hb hg_ hnew_; clear hg_ hnew_; (first | rw [← Ny587.out] at ho4 | (simp only [Int.reduceToNat] at ho4; rw [← Ny587.out] at ho4)); have n_ := t3 (rL ho4 (bs_ pB)) (blk_below (g := gb586) (o := .cells #[.int .i64 a0_0, .int .i64 a0_1, .int .i64 a0_2, .int .i64 a0_3, .slice A0_4 l0_4.length c0_4] 72 (0, 0)) (pK BK586) hb) (bz_ pB hb); clear BK586 HB; obtain ⟨HO589, BK586, HB⟩ := n_; clear hb ho4; have hcz5_0 : w3.cell? ⟨gb586, 0, none⟩ = some (.int .i64 a0_0) := (blk_cell BK586.out 0).trans rfl; have hcz5_1 : w3.cell? ⟨gb586, 1, none⟩ = some (.int .i64 a0_1) := (blk_cell BK586.out 1).trans rfl; have hcz5_2 : w3.cell? ⟨gb586, 2, none⟩ = some (.int .i64 a0_2) := (blk_cell BK586.out 2).trans rfl; have hcz5_3 : w3.cell? ⟨gb586, 3, none⟩ = some (.int .i64 a0_3) := (blk_cell BK586.out 3).trans rfl; have hcz5_4 : w3.cell? ⟨gb586, 4, none⟩ = some (.slice A0_4 l0_4.length c0_4) := (blk_cell BK586.out 4).trans rfl; have hfz5_0 := blk_frozen BK586.out 0; have hfz5_1 := blk_frozen BK586.out 1; have hfz5_2 := blk_frozen BK586.out 2; have hfz5_3 := blk_frozen BK586.out 3; have hfz5_4 := blk_frozen BK586.out 4))
 go_loopg [3, 10] k (fun kq v3 v10 w' => ∃ (x3_1 : List Int) (x10_1 : Int), v10 = .int .i64 x10_1 ∧ Aside0 (impl_txSums.l0 kq x3_1 l0_4 (l0_4.length : Int) x10_1 = some r) ∧ Aside0 (kq ≤ k) ∧ Aside0 (Kd.R (Kd.int .i64) 2 w' w.heap.size (fun _ => True) v3 x3_1) ∧ Aside0 (w'.heap[gb586]? = some (.cells #[.int .i64 a0_0, .int .i64 a0_1, .int .i64 a0_2, .int .i64 a0_3, (.slice A0_4 l0_4.length c0_4)] 72 (0, 0))) ∧ Aside0 (Below w.heap.size w w'))
 case atStart => exact ⟨(y587), (0), pF, H', ⟨Nat.le_refl _⟩, ⟨(pR HO589)⟩, ⟨(pK BK586)⟩, ⟨pB⟩⟩
 case round =>
  clear H'
  (try clear hcz5_0); (try clear hcz5_1); (try clear hcz5_2); (try clear hcz5_3); (try clear hcz5_4); (try clear hfz5_0); (try clear hfz5_1); (try clear hfz5_2); (try clear hfz5_3); (try clear hfz5_4)
  obtain ⟨x3_1, x10_1, rfl, HA, HK1, HO_3, BK586, HB⟩ := hrel
  cases gk with
  | zero => exact absurd HA.out (by simp [impl_txSums.l0])
  | succ k1 =>
   have H := HA.out
   clear HA
   simp only [impl_txSums.l0] at H
   by_cases c6 : x10_1 < (l0_4.length : Int)
   · rw [if_pos c6] at H
     have c6b0 : decide (x10_1 < (l0_4.length : Int)) = true := dt c6
     clear c6
     by_cases c7 : 0 ≤ x10_1
     · rw [if_pos c7] at H
       have c7b0 : decide (0 ≤ x10_1) = true := dt c7
       clear c7
       by_cases c8 : x10_1 < (l0_4.length : Int)
       · rw [if_pos c8] at H
         have c8b0 : decide (x10_1 < (l0_4.length : Int)) = true := dt c8
         clear c8
         obtain ⟨t592, A90, H⟩ := bO H
         replace H : (if x3_1.length < 17592186044416 then (impl_txSums.l0 k1 (x3_1 ++ [t592]) l0_4 (l0_4.length : Int) (wrap64 (x10_1 + 1))) else (none)) = some r := H
         have A9 := am A90; clear A90
         by_cases c10 : x3_1.length < 17592186044416
         · rw [if_pos c10] at H
           have LMc10 := am c10; clear c10
           obtain ⟨y593, hy593⟩ : ∃ y_ : List Int, y_ = (x3_1 ++ [t592]) := ⟨_, rfl⟩
           replace H : (impl_txSums.l0 k1 y593 l0_4 (l0_4.length : Int) (wrap64 (x10_1 + 1))) = some r := by first | (rw [hy593]; with_reducible exact H) | (have H2_ := (Option.bind_some _ _).symm.trans H; rw [hy593]; with_reducible exact H2_) | (have H2_ := (Option.bind_some _ _).symm.trans H; with_reducible exact H2_) | with_reducible exact H | (rw [hy593]; exact H) | exact H
           have Ny593 := am hy593; clear hy593
           have H' := am H
           clear H
           have p590 : 0 ≤ (x10_1 : Int) := pD
           have q590 : x10_1 < (l0_4.length : Int) := pD
           obtain ⟨ad590, A590_1, c590_1, A590_2, c590_2, e590, hx590_0, hx590_1, hx590_2, hl590_1, hi590_1, hl590_2, hi590_2⟩ := at_T27 HR0_4.out x10_1 p590 q590
           cases e590; replace hx590_0 := cb HB hx590_0; replace hx590_1 := cb HB hx590_1; replace hx590_2 := cb HB hx590_2; have HR590_1 := am hi590_1; have HC590_1 := am hl590_1; clear hi590_1 hl590_1; have HR590_2 := am hi590_2; have HC590_2 := am hl590_2; clear hi590_2 hl590_2; replace p590 := eq_true p590; replace q590 := eq_true q590
           go_wp2_with (first | ((with_reducible refine gate_dst (N := 5) rfl ?_); refine box_event ?hg (N := 5) ?hd (cs := #[.int .i64 0, .slice none 0 0, .slice none 0 0]) (t := 27) ?hr ?_; (case hd => rfl); (case hg => rfl); (case hr => first | (go_simp; done) | (go_simp; rfl)); intro gb591 hg w11 hbox hb; have n_ := t8 (Kd.R_below (pR HO_3) hb) (blk_below (g := gb586) (o := .cells #[.int .i64 a0_0, .int .i64 a0_1, .int .i64 a0_2, .int .i64 a0_3, .slice (some ad590) l0_4.length c0_4] 72 (0, 0)) (pK BK586) hb) (bz_ pB hb) (hbox) ((by rw [hg]; exact (bs_ pB) : w.heap.size ≤ gb591)) ((by rw [hg]; exact (bs_ pB) : w.heap.size ≤ gb591)) ((by rw [hg]; exact Nat.ne_of_lt (blk_lt (g := gb586) (o := .cells #[.int .i64 a0_0, .int .i64 a0_1, .int .i64 a0_2, .int .i64 a0_3, .slice (some ad590) l0_4.length c0_4] 72 (0, 0)) (pK BK586)) : gb586 ≠ gb591)) ((by rw [hg]; exact Nat.ne_of_gt (blk_lt (g := gb586) (o := .cells #[.int .i64 a0_0, .int .i64 a0_1, .int .i64 a0_2, .int .i64 a0_3, .slice (some ad590) l0_4.length c0_4] 72 (0, 0)) (pK BK586)) : gb591 ≠ gb586)); clear HO_3 BK586 HB; obtain ⟨HO_3, BK586, HB, BK591, GW591, GE591, NB586_591, NB591_586⟩ := n_; clear hb hbox hg; have hnb12 := NB591_586.out; have hnc12 := NB586_591.out; have hcz13_0 : w11.cell? ⟨gb591, 0, none⟩ = some (.int .i64 0) := (blk_cell BK591.out 0).trans rfl; have hcz13_1 : w11.cell? ⟨gb591, 1, none⟩ = some (.slice none 0 0) := (blk_cell BK591.out 1).trans rfl; have hcz13_2 : w11.cell? ⟨gb591, 2, none⟩ = some (.slice none 0 0) := (blk_cell BK591.out 2).trans rfl; have hfz13_0 := blk_frozen BK591.out 0; have hfz13_1 := blk_frozen BK591.out 1; have hfz13_2 := blk_frozen BK591.out 2) | ((with_reducible refine gC (f := 52) rfl ?_); refine goesL_ (some 16) rfl rfl Try.func52 (by kernel_rfl) rfl #[.agg #[.int .i64 ((rd_T27 l0_4 x10_1).f0), .slice A590_1 ((rd_T27 l0_4 x10_1).f1).length c590_1, .slice A590_2 ((rd_T27 l0_4 x10_1).f2).length c590_2]] rfl pA ?_; (with_reducible refine (impl_txSum.calls k1 ((rd_T27 l0_4 x10_1).f0) _ _ ((rd_T27 l0_4 x10_1).f1) _ _ ((rd_T27 l0_4 x10_1).f2) t592 _ ?side1 ?side2 ?side3 ?side4 A9.out).mono ?_); (case side1 => exact Kd.C_below HR590_1.out pB); (case side2 => exact HC590_1.out); (case side3 => exact Kd.C_below HR590_2.out pB); (case side4 => exact HC590_2.out); rintro e w14 ⟨rfl, hb⟩; refine ⟨_, rfl, ?_⟩; have n_ := t4 (Kd.R_below (pT (Kd.R_mono (Kd.R_far (p := ⟨gb591, 2, none⟩) (Kd.R_far (p := ⟨gb591, 1, none⟩) (Kd.R_far (p := ⟨gb591, 0, none⟩) (Kd.R_types HO_3.out BK591.out (by decide)) (fun _ hk => hk.2) (.int .i64 ((rd_T27 l0_4 x10_1).f0))) (fun _ hk => hk.2) (.slice A590_1 ((rd_T27 l0_4 x10_1).f1).length c590_1)) (fun _ hk => hk.2) (.slice A590_2 ((rd_T27 l0_4 x10_1).f2).length c590_2)) (fun _ h_ => h_.1))) hb) (blk_below (g := gb586) (o := .cells #[.int .i64 a0_0, .int .i64 a0_1, .int .i64 a0_2, .int .i64 a0_3, .slice (some ad590) l0_4.length c0_4] 72 (0, 0)) (by (with_reducible repeat (first | refine blk_drewN ?_ _ | refine blk_drew ?_ | refine blk_alloc ?_ _)); refine blk_far ?_ NB586_591.out _; (with_reducible repeat (first | refine blk_drewN ?_ _ | refine blk_drew ?_ | refine blk_alloc ?_ _)); refine blk_far ?_ NB586_591.out _; (with_reducible repeat (first | refine blk_drewN ?_ _ | refine blk_drew ?_ | refine blk_alloc ?_ _)); refine blk_far ?_ NB586_591.out _; (with_reducible repeat (first | refine blk_drewN ?_ _ | refine blk_drew ?_ | refine blk_alloc ?_ _)); exact BK586.out) hb) (blk_below (g := gb591) (o := .cells #[.int .i64 ((rd_T27 l0_4 x10_1).f0), .slice A590_1 ((rd_T27 l0_4 x10_1).f1).length c590_1, .slice A590_2 ((rd_T27 l0_4 x10_1).f2).length c590_2] 27 (0, 0)) (by (with_reducible repeat (first | refine blk_drewN ?_ _ | refine blk_drew ?_ | refine blk_alloc ?_ _)); refine blk_put (cs := #[.int .i64 ((rd_T27 l0_4 x10_1).f0), .slice A590_1 ((rd_T27 l0_4 x10_1).f1).length c590_1, .slice none 0 0]) ?_ 2 _ rfl; (with_reducible repeat (first | refine blk_drewN ?_ _ | refine blk_drew ?_ | refine blk_alloc ?_ _)); refine blk_put (cs := #[.int .i64 ((rd_T27 l0_4 x10_1).f0), .slice none 0 0, .slice none 0 0]) ?_ 1 _ rfl; (with_reducible repeat (first | refine blk_drewN ?_ _ | refine blk_drew ?_ | refine blk_alloc ?_ _)); refine blk_put (cs := #[.int .i64 0, .slice none 0 0, .slice none 0 0]) ?_ 0 _ rfl; (with_reducible repeat (first | refine blk_drewN ?_ _ | refine blk_drew ?_ | refine blk_alloc ?_ _)); exact BK591.out) hb) (bz_ pB hb); clear HO_3 BK586 BK591 HB; obtain ⟨HO_3, BK586, BK591, HB⟩ := n_; (try clear hb); (try clear hk)) | ((with_reducible refine gB (b := .append) (xs := #[.tmp 14, .tmp 17]) rfl ?_); at_builtin; refine Kd.R_append (Kd.int .i64) (w0 := w) w.heap.size rfl (.tmp 14) (.tmp 17) 32 2 (.int .i64 0) 8 rfl Try.underlying32 info2 rfl (by decide) (by omega) u3 x3_1 t592 [.int .i64 t592] (fun _ => True) (fun _ => False) rfl rfl ?aP (fun _ hk => hk.elim) ?aF ?aO ?aB ?aS ?aL ?_; (case aP => exact rfl); (case aB => exact pB); (case aF => exact (fun _ _ => trivial)); (case aO => exact (pR HO_3)); (case aS => exact (bs_ pB)); (case aL => have := LMc10.out; omega); intro v594 w15 ho hb hg hat; rw [← Ny593.out] at ho; have n_ := t4 (blk_grown (g := gb586) (o := .cells #[.int .i64 a0_0, .int .i64 a0_1, .int .i64 a0_2, .int .i64 a0_3, .slice (some ad590) l0_4.length c0_4] 72 (0, 0)) (pK BK586) hg (Kd.R_ne HO_3.out BK586.out (by decide))) (blk_grown (g := gb591) (o := .cells #[.int .i64 ((rd_T27 l0_4 x10_1).f0), .slice A590_1 ((rd_T27 l0_4 x10_1).f1).length c590_1, .slice A590_2 ((rd_T27 l0_4 x10_1).f2).length c590_2] 27 (0, 0)) (pK BK591) hg (Kd.R_ne HO_3.out BK591.out (by decide))) (hb) (ho); clear BK586 BK591 HB HO_3; obtain ⟨BK586, BK591, HB, HO595⟩ := n_; clear ho hb hg hat))
           go_roundg k1
           case measure => have := HK1.out; omega
           case rel => exact ⟨(y593), (wrap64 (x10_1 + 1)), pF, H', ⟨by have := HK1.out; omega⟩, ⟨(pR HO595)⟩, ⟨(pK BK586)⟩, ⟨pB⟩⟩
         · rw [if_neg c10] at H
           exact absurd H (by simp)
       · rw [if_neg c8] at H
         exact absurd H (by simp)
     · rw [if_neg c7] at H
       exact absurd H (by simp)
   · rw [if_neg c6] at H
     have c6b0 : decide (x10_1 < (l0_4.length : Int)) = false := decide_eq_false c6
     clear c6
     obtain rfl := sj H
     go_wp2
     go_ret
     exact ⟨_, pE, (pR HO_3), pB⟩
end Go.Proofs.Ythjlbpgiaehjnaa.QFnExactBlockRoot
