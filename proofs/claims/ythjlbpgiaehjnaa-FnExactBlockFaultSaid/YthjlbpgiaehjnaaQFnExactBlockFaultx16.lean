-- written by this session's program (wip/tools/myprint.py)
import Derived.Test.YthjlbpgiaehjnaaQFnExactBlockFaultx0
import Derived.Test.YthjlbpgiaehjnaaQFnExactBlockFaultx12
import Derived.Test.YthjlbpgiaehjnaaQFnExactBlockFaultx15
-- squeezed
namespace Go.Proofs.Ythjlbpgiaehjnaa.QFnExactBlockFault
open Go.RowKit Go.Proofs.YthjlbpgiaehjnaaW.PrintWords Go.Proofs.YthjlbpgiaehjnaaW.PrintLast Go.Proofs.YthjlbpgiaehjnaaW.PrintMore
attribute [local go_sem] max2_int min2_int max_two min_two max_three min_three max_four min_four   -- for this text's walks alone
set_option linter.unusedVariables false
set_option linter.unusedSimpArgs false
set_option maxHeartbeats 8000000
set_option maxRecDepth 100000
def impl_txSum.l0 : Nat → List (S34) → Int → Int → Int → List (S34) → List (S86) → Option (Int)
 | 0, _, _, _, _, _, _ => none
 | k + 1, x12, x13, x14, x542000, x542001, x542002 => if x14 < x13 then (if 0 ≤ x14 then (if x14 < (x12.length : Int) then (if x542001.length < 3518437208883 then (impl_txSum.l0 k x12 x13 (wrap64 (x14 + 1)) x542000 (x542001 ++ [(⟨(rd_T34 x12 x14).f0, (rd_T34 x12 x14).f1, ([] : List Int)⟩ : S34)]) x542002) else (none)) else (none)) else (none)) else ((impl_packTx.f k x542000 x542001 x542002).bind fun t547 => ((impl_sumOf.f k t547).bind fun t550 => (some t550)))
def impl_txSum.f (k : Nat) (a0_0 : Int) (l0_1 : List (S34)) (l0_2 : List (S86)) : Option (Int) := impl_txSum.l0 k l0_1 (l0_1.length : Int) 0 a0_0 ([] : List (S34)) l0_2
theorem impl_txSum.mono_l : ∀ k, (∀ y0 y1 y2 y3 y4 y5, LeO (impl_txSum.l0 k y0 y1 y2 y3 y4 y5) (impl_txSum.l0 (k + 1) y0 y1 y2 y3 y4 y5))
 | 0 => fun _ _ _ _ _ _ r h => by simp [impl_txSum.l0] at h
 | k + 1 => by
  have ih0 := impl_txSum.mono_l k
  · intro y0 y1 y2 y3 y4 y5
    unfold impl_txSum.l0
    repeat' with_reducible first | exact ih0 _ _ _ _ _ _ | exact impl_packTx.mono _ _ _ _ | exact impl_sumOf.mono _ _ | exact LeO.refl _ | exact LeO.none _ | refine LeO.ite ?_ ?_ | refine LeO.bind ?_ (fun _ => ?_)
theorem impl_txSum.mono : ∀ a0 a1 a2 k, LeO (impl_txSum.f k a0 a1 a2) (impl_txSum.f (k + 1) a0 a1 a2) := by
 intro a0 a1 a2 k
 have ih0 := impl_txSum.mono_l k
 unfold impl_txSum.f
 repeat' with_reducible first | exact ih0 _ _ _ _ _ _ | exact impl_packTx.mono _ _ _ _ | exact impl_sumOf.mono _ _ | exact LeO.refl _ | exact LeO.none _ | refine LeO.ite ?_ ?_ | refine LeO.bind ?_ (fun _ => ?_)
theorem impl_txSum.calls (k : Nat) (a0_0 : Int) (A0_1 : Option Addr) (c0_1 : Nat) (l0_1 : List (S34)) (A0_2 : Option Addr) (c0_2 : Nat) (l0_2 : List (S86)) (r : Int) (w : World) (hr0_1 : Kd.C k34 w A0_1 l0_1.length l0_1) (hc0_1 : l0_1.length ≤ c0_1) (hr0_2 : Kd.C k86 w A0_2 l0_2.length l0_2) (hc0_2 : l0_2.length ≤ c0_2) (h : impl_txSum.f k a0_0 l0_1 l0_2 = some r) :
 Calls Try.prog 52 #[.agg #[.int .i64 a0_0, .slice A0_1 l0_1.length c0_1, .slice A0_2 l0_2.length c0_2]] w fun e w' => e = .returned (.int .i64 r) ∧ Below w.heap.size w w' := by
 have hu27 := Try.underlying27
 have hu34 := Try.underlying34
 have HR0_1 := Aside0.mk hr0_1; have HC0_1 := Aside0.mk hc0_1; clear hr0_1 hc0_1; have HR0_2 := Aside0.mk hr0_2; have HC0_2 := Aside0.mk hc0_2; clear hr0_2 hc0_2
 have HB := Aside0.mk (Below.refl w.heap.size w)
 have H : (impl_txSum.l0 k l0_1 (l0_1.length : Int) 0 a0_0 ([] : List (S34)) l0_2) = some r := h
 clear h
 have H' := Aside0.mk H
 clear H
 go_enter Try.func52, Try.ntmps52
 go_wp2_with (first | ((with_reducible refine gate_dst (N := 1) rfl ?_); refine box_event ?hg (N := 1) ?hd (cs := #[.int .i64 a0_0, .slice A0_1 l0_1.length c0_1, .slice A0_2 l0_2.length c0_2]) (t := 27) ?hr ?_; (case hd => rfl); (case hg => rfl); (case hr => first | (go_simp; done) | (go_simp; rfl)); intro gb540 hg w2 hbox hb; have n_ := t4 (below_step pB hb) (hbox) ((by rw [hg]; exact (below_size pB) : w.heap.size ≤ gb540)) ((by rw [hg]; exact (below_size pB) : w.heap.size ≤ gb540)); clear HB; obtain ⟨HB, BK540, GW540, GE540⟩ := n_; clear hb hbox hg; have hcz3_0 : w2.cell? ⟨gb540, 0, none⟩ = some (.int .i64 a0_0) := (blk_cell BK540.out 0).trans rfl; have hcz3_1 : w2.cell? ⟨gb540, 1, none⟩ = some (.slice A0_1 l0_1.length c0_1) := (blk_cell BK540.out 1).trans rfl; have hcz3_2 : w2.cell? ⟨gb540, 2, none⟩ = some (.slice A0_2 l0_2.length c0_2) := (blk_cell BK540.out 2).trans rfl; have hfz3_0 := blk_frozen BK540.out 0; have hfz3_1 := blk_frozen BK540.out 1; have hfz3_2 := blk_frozen BK540.out 2) | ((with_reducible refine gate_dst (N := 3) rfl ?_); refine box_event ?hg (N := 3) ?hd (cs := #[.int .i64 0, .slice none 0 0, .slice none 0 0]) (t := 27) ?hr ?_; (case hd => rfl); (case hg => rfl); (case hr => first | (go_simp; done) | (go_simp; rfl)); intro gb541 hg w4 hbox hb; have n_ := t7 (blk_below (g := gb540) (o := .cells #[.int .i64 a0_0, .slice A0_1 l0_1.length c0_1, .slice A0_2 l0_2.length c0_2] 27 (0, 0)) (pK BK540) hb) (below_step pB hb) (hbox) ((by rw [hg]; exact (below_size pB) : w.heap.size ≤ gb541)) ((by rw [hg]; exact (below_size pB) : w.heap.size ≤ gb541)) ((by rw [hg]; exact Nat.ne_of_lt (blk_lt (g := gb540) (o := .cells #[.int .i64 a0_0, .slice A0_1 l0_1.length c0_1, .slice A0_2 l0_2.length c0_2] 27 (0, 0)) (pK BK540)) : gb540 ≠ gb541)) ((by rw [hg]; exact Nat.ne_of_gt (blk_lt (g := gb540) (o := .cells #[.int .i64 a0_0, .slice A0_1 l0_1.length c0_1, .slice A0_2 l0_2.length c0_2] 27 (0, 0)) (pK BK540)) : gb541 ≠ gb540)); clear BK540 HB; obtain ⟨BK540, HB, BK541, GW541, GE541, NB540_541, NB541_540⟩ := n_; clear hb hbox hg; have hnb5 := NB541_540.out; have hnc5 := NB540_541.out; have hcz6_0 : w4.cell? ⟨gb541, 0, none⟩ = some (.int .i64 0) := (blk_cell BK541.out 0).trans rfl; have hcz6_1 : w4.cell? ⟨gb541, 1, none⟩ = some (.slice none 0 0) := (blk_cell BK541.out 1).trans rfl; have hcz6_2 : w4.cell? ⟨gb541, 2, none⟩ = some (.slice none 0 0) := (blk_cell BK541.out 2).trans rfl; have hfz6_0 := blk_frozen BK541.out 0; have hfz6_1 := blk_frozen BK541.out 1; have hfz6_2 := blk_frozen BK541.out 2; have hcz7_0 : w4.cell? ⟨gb540, 0, none⟩ = some (.int .i64 a0_0) := (blk_cell BK540.out 0).trans rfl; have hcz7_1 : w4.cell? ⟨gb540, 1, none⟩ = some (.slice A0_1 l0_1.length c0_1) := (blk_cell BK540.out 1).trans rfl; have hcz7_2 : w4.cell? ⟨gb540, 2, none⟩ = some (.slice A0_2 l0_2.length c0_2) := (blk_cell BK540.out 2).trans rfl; have hfz7_0 := blk_frozen BK540.out 0; have hfz7_1 := blk_frozen BK540.out 1; have hfz7_2 := blk_frozen BK540.out 2))
 go_loopg [14] k (fun kq v14 w' => ∃ (x14_1 : Int) (x542001_1 : List (S34)) (u542001 : Value), v14 = .int .i64 x14_1 ∧ Aside0 (impl_txSum.l0 kq l0_1 (l0_1.length : Int) x14_1 a0_0 x542001_1 l0_2 = some r) ∧ Aside0 (kq ≤ k) ∧ Aside0 (Kd.S k34 34 w' w.heap.size (fun _ => True) u542001 x542001_1) ∧ Aside0 (w'.heap[gb540]? = some (.cells #[.int .i64 a0_0, (.slice A0_1 l0_1.length c0_1), (.slice A0_2 l0_2.length c0_2)] 27 (0, 0))) ∧ Aside0 (w'.heap[gb541]? = some (.cells #[.int .i64 a0_0, u542001, (.slice A0_2 l0_2.length c0_2)] 27 (0, 0))) ∧ Aside0 (Below w.heap.size w w'))
 case atStart => exact ⟨(0), (([] : List (S34))), (.slice none 0 0), pF, H', ⟨Nat.le_refl _⟩, ⟨by first | exact Kd.S_nil _ _ _ _ _ | exact Kd.N_nil _ _ _ _ _ | exact Kd.V_nil _ _ _ _ _ | exact Kd.Q_nil _ _ _ _ _ | exact Kd.R_nil _ _ _ _ _⟩, ⟨by (with_reducible repeat (first | refine blk_drewN ?_ _ | refine blk_drew ?_ | refine blk_alloc ?_ _)); refine blk_far ?_ NB540_541.out _; (with_reducible repeat (first | refine blk_drewN ?_ _ | refine blk_drew ?_ | refine blk_alloc ?_ _)); refine blk_far ?_ NB540_541.out _; (with_reducible repeat (first | refine blk_drewN ?_ _ | refine blk_drew ?_ | refine blk_alloc ?_ _)); refine blk_far ?_ NB540_541.out _; (with_reducible repeat (first | refine blk_drewN ?_ _ | refine blk_drew ?_ | refine blk_alloc ?_ _)); exact BK540.out⟩, ⟨by (with_reducible repeat (first | refine blk_drewN ?_ _ | refine blk_drew ?_ | refine blk_alloc ?_ _)); refine blk_put (cs := #[.int .i64 a0_0, .slice none 0 0, .slice none 0 0]) ?_ 2 _ rfl; (with_reducible repeat (first | refine blk_drewN ?_ _ | refine blk_drew ?_ | refine blk_alloc ?_ _)); refine blk_put (cs := #[.int .i64 a0_0, .slice none 0 0, .slice none 0 0]) ?_ 1 _ rfl; (with_reducible repeat (first | refine blk_drewN ?_ _ | refine blk_drew ?_ | refine blk_alloc ?_ _)); refine blk_put (cs := #[.int .i64 0, .slice none 0 0, .slice none 0 0]) ?_ 0 _ rfl; (with_reducible repeat (first | refine blk_drewN ?_ _ | refine blk_drew ?_ | refine blk_alloc ?_ _)); exact BK541.out⟩, ⟨pB⟩⟩
 case round =>
  clear H'
  (try clear p2); (try clear c5); (try clear hcz3_0); (try clear hcz3_1); (try clear hcz3_2); (try clear hcz6_0); (try clear hcz6_1); (try clear hcz6_2); (try clear hcz7_0); (try clear hcz7_1); (try clear hcz7_2); (try clear hfz3_0); (try clear hfz3_1); (try clear hfz3_2); (try clear hfz6_0); (try clear hfz6_1); (try clear hfz6_2); (try clear hfz7_0); (try clear hfz7_1); (try clear hfz7_2)
  obtain ⟨x14_1, x542001_1, u542001, rfl, HA, HK1, HO_542001, BK540, BK541, HB⟩ := hrel
  cases gk with
  | zero => exact absurd HA.out (by simp [impl_txSum.l0])
  | succ k1 =>
   have H := HA.out
   clear HA
   simp only [impl_txSum.l0] at H
   by_cases c8 : x14_1 < (l0_1.length : Int)
   · rw [if_pos c8] at H
     have c8b0 : decide (x14_1 < (l0_1.length : Int)) = true := decide_eq_true c8
     clear c8
     by_cases c9 : 0 ≤ x14_1
     · rw [if_pos c9] at H
       have c9b0 : decide (0 ≤ x14_1) = true := decide_eq_true c9
       clear c9
       by_cases c10 : x14_1 < (l0_1.length : Int)
       · rw [if_pos c10] at H
         have c10b0 : decide (x14_1 < (l0_1.length : Int)) = true := decide_eq_true c10
         clear c10
         by_cases c11 : x542001_1.length < 3518437208883
         · rw [if_pos c11] at H
           have LMc11 := Aside0.mk c11; clear c11
           obtain ⟨y544, hy544⟩ : ∃ y_ : List (S34), y_ = (x542001_1 ++ [(⟨(rd_T34 l0_1 x14_1).f0, (rd_T34 l0_1 x14_1).f1, ([] : List Int)⟩ : S34)]) := ⟨_, rfl⟩
           replace H : (impl_txSum.l0 k1 l0_1 (l0_1.length : Int) (wrap64 (x14_1 + 1)) a0_0 y544 l0_2) = some r := by first | (rw [hy544]; with_reducible exact H) | (have H2_ := (Option.bind_some _ _).symm.trans H; rw [hy544]; with_reducible exact H2_) | (have H2_ := (Option.bind_some _ _).symm.trans H; with_reducible exact H2_) | with_reducible exact H | (rw [hy544]; exact H) | exact H
           have Ny544 := Aside0.mk hy544; clear hy544
           have H' := Aside0.mk H
           clear H
           have p542 : 0 ≤ (x14_1 : Int) := pD
           have q542 : x14_1 < (l0_1.length : Int) := pD
           obtain ⟨ad542, A542_2, c542_2, e542, hx542_0, hx542_1, hx542_2, hl542_2, hi542_2⟩ := at_T34 HR0_1.out x14_1 p542 q542
           cases e542; replace hx542_0 := cb HB hx542_0; replace hx542_1 := cb HB hx542_1; replace hx542_2 := cb HB hx542_2; have HR542_2 := Aside0.mk hi542_2; have HC542_2 := Aside0.mk hl542_2; clear hi542_2 hl542_2; replace p542 := eq_true p542; replace q542 := eq_true q542
           go_wp2_with (first | ((with_reducible refine gate_dst (N := 5) rfl ?_); refine box_event ?hg (N := 5) ?hd (cs := #[.int .i64 0, .int .i64 0, .slice none 0 0]) (t := 34) ?hr ?_; (case hd => rfl); (case hg => rfl); (case hr => first | (go_simp; done) | (go_simp; rfl)); intro gb543 hg w12 hbox hb; have n0_ := Aside0.mk (Kd.S_below (Kd.S_elderB (by (with_reducible repeat (first | apply Kd.S_alloc | apply Kd.S_drewN | apply Kd.S_drew)); exact HO_542001.out) gb543 (Nat.le_of_eq hg.symm)) hb); have n1_ := Aside0.mk (blk_below (g := gb540) (o := .cells #[.int .i64 a0_0, .slice (some ad542) l0_1.length c0_1, .slice A0_2 l0_2.length c0_2] 27 (0, 0)) (pK BK540) hb); have n2_ := Aside0.mk (blk_below (g := gb541) (o := .cells #[.int .i64 a0_0, u542001, .slice A0_2 l0_2.length c0_2] 27 (0, 0)) (pK BK541) hb); have n3_ := Aside0.mk (below_step pB hb); have n4_ := Aside0.mk (hbox); have n5_ := Aside0.mk ((by rw [hg]; exact (below_size pB) : w.heap.size ≤ gb543)); have n6_ := Aside0.mk ((by rw [hg]; exact (below_size pB) : w.heap.size ≤ gb543)); have n7_ := Aside0.mk ((by rw [hg]; exact Nat.ne_of_lt (blk_lt (g := gb540) (o := .cells #[.int .i64 a0_0, .slice (some ad542) l0_1.length c0_1, .slice A0_2 l0_2.length c0_2] 27 (0, 0)) (pK BK540)) : gb540 ≠ gb543)); have n8_ := Aside0.mk ((by rw [hg]; exact Nat.ne_of_gt (blk_lt (g := gb540) (o := .cells #[.int .i64 a0_0, .slice (some ad542) l0_1.length c0_1, .slice A0_2 l0_2.length c0_2] 27 (0, 0)) (pK BK540)) : gb543 ≠ gb540)); have n9_ := Aside0.mk ((by rw [hg]; exact Nat.ne_of_lt (blk_lt (g := gb541) (o := .cells #[.int .i64 a0_0, u542001, .slice A0_2 l0_2.length c0_2] 27 (0, 0)) (pK BK541)) : gb541 ≠ gb543)); have n10_ := Aside0.mk ((by rw [hg]; exact Nat.ne_of_gt (blk_lt (g := gb541) (o := .cells #[.int .i64 a0_0, u542001, .slice A0_2 l0_2.length c0_2] 27 (0, 0)) (pK BK541)) : gb543 ≠ gb541)); clear HO_542001; clear BK540; clear BK541; clear HB; have HO_542001 := n0_; have BK540 := n1_; have BK541 := n2_; have HB := n3_; have BK543 := n4_; have GW543 := n5_; have GE543 := n6_; have NB540_543 := n7_; have NB543_540 := n8_; have NB541_543 := n9_; have NB543_541 := n10_; clear n0_ n1_ n2_ n3_ n4_ n5_ n6_ n7_ n8_ n9_ n10_; clear hb hbox hg; have hnb13 := NB543_540.out; have hnc13 := NB540_543.out; have hnb14 := NB543_541.out; have hnc14 := NB541_543.out; have hcz15_0 : w12.cell? ⟨gb543, 0, none⟩ = some (.int .i64 0) := (blk_cell BK543.out 0).trans rfl; have hcz15_1 : w12.cell? ⟨gb543, 1, none⟩ = some (.int .i64 0) := (blk_cell BK543.out 1).trans rfl; have hcz15_2 : w12.cell? ⟨gb543, 2, none⟩ = some (.slice none 0 0) := (blk_cell BK543.out 2).trans rfl; have hfz15_0 := blk_frozen BK543.out 0; have hfz15_1 := blk_frozen BK543.out 1; have hfz15_2 := blk_frozen BK543.out 2; have hnb16 := NB541_540.out; have hnc16 := NB540_541.out; have hcz17_0 : w12.cell? ⟨gb541, 0, none⟩ = some (.int .i64 a0_0) := (blk_cell BK541.out 0).trans rfl; have hcz17_1 : w12.cell? ⟨gb541, 1, none⟩ = some (u542001) := (blk_cell BK541.out 1).trans rfl; have hcz17_2 : w12.cell? ⟨gb541, 2, none⟩ = some (.slice A0_2 l0_2.length c0_2) := (blk_cell BK541.out 2).trans rfl; have hfz17_0 := blk_frozen BK541.out 0; have hfz17_1 := blk_frozen BK541.out 1; have hfz17_2 := blk_frozen BK541.out 2) | ((with_reducible refine gate_builtin (b := .append) (xs := #[.tmp 19, .tmp 25]) rfl ?_); at_builtin; refine Kd.S_append k34 (w0 := w) w.heap.size rfl (.tmp 19) (.tmp 25) 24 34 (.agg #[(.int .i64 0), (.int .i64 0), (.slice none 0 0)]) 40 rfl Try.underlying24 info34 rfl (by decide) (by omega) u542001 x542001_1 (⟨(rd_T34 l0_1 x14_1).f0, (rd_T34 l0_1 x14_1).f1, ([] : List Int)⟩ : S34) [.int .i64 ((rd_T34 l0_1 x14_1).f0), .int .i64 ((rd_T34 l0_1 x14_1).f1), .slice none 0 0] (fun k_ => k_ ≠ gb543) (fun _ => False) rfl (by first | (go_simp; done) | (go_simp; rfl)) ?aP (fun k_ hk_ => hk_.elim) ?aF ?aO ?aB ?aS ?aL ?_; (case aP => exact k34_mkM _ _ _ (⟨(rd_T34 l0_1 x14_1).f0, (rd_T34 l0_1 x14_1).f1, ([] : List Int)⟩ : S34) (Kd.R_nil _ _ _ _ _)); (case aB => exact pB); (case aF => exact (fun k_ hk => Kd.freshB (g := gb543) (o := .cells #[.int .i64 ((rd_T34 l0_1 x14_1).f0), .int .i64 ((rd_T34 l0_1 x14_1).f1), .slice A542_2 ((rd_T34 l0_1 x14_1).f2).length c542_2] 34 (0, 0)) (by (with_reducible repeat (first | refine blk_drewN ?_ _ | refine blk_drew ?_ | refine blk_alloc ?_ _)); refine blk_put (cs := #[.int .i64 ((rd_T34 l0_1 x14_1).f0), .int .i64 ((rd_T34 l0_1 x14_1).f1), .slice none 0 0]) ?_ 2 _ rfl; (with_reducible repeat (first | refine blk_drewN ?_ _ | refine blk_drew ?_ | refine blk_alloc ?_ _)); refine blk_put (cs := #[.int .i64 ((rd_T34 l0_1 x14_1).f0), .int .i64 0, .slice none 0 0]) ?_ 1 _ rfl; (with_reducible repeat (first | refine blk_drewN ?_ _ | refine blk_drew ?_ | refine blk_alloc ?_ _)); refine blk_put (cs := #[.int .i64 0, .int .i64 0, .slice none 0 0]) ?_ 0 _ rfl; (with_reducible repeat (first | refine blk_drewN ?_ _ | refine blk_drew ?_ | refine blk_alloc ?_ _)); exact BK543.out) k_ hk)); (case aO => exact (by (with_reducible repeat (first | apply Kd.S_alloc | apply Kd.S_drewN | apply Kd.S_drew)); exact Kd.S_mono (Kd.S_far (p := ⟨gb543, 2, none⟩) (Kd.S_far (p := ⟨gb543, 1, none⟩) (Kd.S_far (p := ⟨gb543, 0, none⟩) (Kd.S_mono HO_542001.out (fun k_ hk => (⟨hk, hk.2⟩ : _ ∧ k_ ≠ gb543))) (fun _ hk => hk.2) (.int .i64 ((rd_T34 l0_1 x14_1).f0))) (fun _ hk => hk.2) (.int .i64 ((rd_T34 l0_1 x14_1).f1))) (fun _ hk => hk.2) (.slice A542_2 ((rd_T34 l0_1 x14_1).f2).length c542_2)) (fun k_ hk => ⟨hk.1.2, fun e_ => e_⟩))); (case aS => exact (below_size pB)); (case aL => have := LMc11.out; omega); intro v545 w18 ho hb hg hat; rw [← Ny544.out] at ho; have n_ := t5 (blk_grown (g := gb540) (o := .cells #[.int .i64 a0_0, .slice (some ad542) l0_1.length c0_1, .slice A0_2 l0_2.length c0_2] 27 (0, 0)) (by (with_reducible repeat (first | refine blk_drewN ?_ _ | refine blk_drew ?_ | refine blk_alloc ?_ _)); refine blk_far ?_ NB540_543.out _; (with_reducible repeat (first | refine blk_drewN ?_ _ | refine blk_drew ?_ | refine blk_alloc ?_ _)); refine blk_far ?_ NB540_543.out _; (with_reducible repeat (first | refine blk_drewN ?_ _ | refine blk_drew ?_ | refine blk_alloc ?_ _)); refine blk_far ?_ NB540_543.out _; (with_reducible repeat (first | refine blk_drewN ?_ _ | refine blk_drew ?_ | refine blk_alloc ?_ _)); exact BK540.out) hg (Kd.S_ne HO_542001.out BK540.out (by decide))) (blk_grown (g := gb541) (o := .cells #[.int .i64 a0_0, u542001, .slice A0_2 l0_2.length c0_2] 27 (0, 0)) (by (with_reducible repeat (first | refine blk_drewN ?_ _ | refine blk_drew ?_ | refine blk_alloc ?_ _)); refine blk_far ?_ NB541_543.out _; (with_reducible repeat (first | refine blk_drewN ?_ _ | refine blk_drew ?_ | refine blk_alloc ?_ _)); refine blk_far ?_ NB541_543.out _; (with_reducible repeat (first | refine blk_drewN ?_ _ | refine blk_drew ?_ | refine blk_alloc ?_ _)); refine blk_far ?_ NB541_543.out _; (with_reducible repeat (first | refine blk_drewN ?_ _ | refine blk_drew ?_ | refine blk_alloc ?_ _)); exact BK541.out) hg (Kd.S_ne HO_542001.out BK541.out (by decide))) (blk_grown (g := gb543) (o := .cells #[.int .i64 ((rd_T34 l0_1 x14_1).f0), .int .i64 ((rd_T34 l0_1 x14_1).f1), .slice A542_2 ((rd_T34 l0_1 x14_1).f2).length c542_2] 34 (0, 0)) (by (with_reducible repeat (first | refine blk_drewN ?_ _ | refine blk_drew ?_ | refine blk_alloc ?_ _)); refine blk_put (cs := #[.int .i64 ((rd_T34 l0_1 x14_1).f0), .int .i64 ((rd_T34 l0_1 x14_1).f1), .slice none 0 0]) ?_ 2 _ rfl; (with_reducible repeat (first | refine blk_drewN ?_ _ | refine blk_drew ?_ | refine blk_alloc ?_ _)); refine blk_put (cs := #[.int .i64 ((rd_T34 l0_1 x14_1).f0), .int .i64 0, .slice none 0 0]) ?_ 1 _ rfl; (with_reducible repeat (first | refine blk_drewN ?_ _ | refine blk_drew ?_ | refine blk_alloc ?_ _)); refine blk_put (cs := #[.int .i64 0, .int .i64 0, .slice none 0 0]) ?_ 0 _ rfl; (with_reducible repeat (first | refine blk_drewN ?_ _ | refine blk_drew ?_ | refine blk_alloc ?_ _)); exact BK543.out) hg (Kd.S_away HO_542001.out (fun _ hk => hk.2))) (hb) (ho); clear BK540 BK541 BK543 HB HO_542001; obtain ⟨BK540, BK541, BK543, HB, HO546⟩ := n_; clear ho hb hg hat; obtain ⟨Ao19, co19, eo19⟩ := Kd.S_slice HO546.out; subst eo19; have hcz20_0 : w18.cell? ⟨gb541, 0, none⟩ = some (.int .i64 a0_0) := (blk_cell BK541.out 0).trans rfl; have hcz20_1 : w18.cell? ⟨gb541, 1, none⟩ = some (u542001) := (blk_cell BK541.out 1).trans rfl; have hcz20_2 : w18.cell? ⟨gb541, 2, none⟩ = some (.slice A0_2 l0_2.length c0_2) := (blk_cell BK541.out 2).trans rfl; have hfz20_0 := blk_frozen BK541.out 0; have hfz20_1 := blk_frozen BK541.out 1; have hfz20_2 := blk_frozen BK541.out 2))
           go_roundg k1
           case measure => have := HK1.out; omega
           case rel => exact ⟨(wrap64 (x14_1 + 1)), (y544), (.slice Ao19 y544.length co19), pF, H', ⟨by have := HK1.out; omega⟩, ⟨by (with_reducible repeat (first | apply Kd.S_alloc | apply Kd.S_drewN | apply Kd.S_drew)); exact Kd.S_mono (Kd.S_far (p := ⟨gb541, 1, none⟩) (Kd.S_types HO546.out BK541.out (by decide)) (fun _ hk => hk.2) (.slice Ao19 y544.length co19)) (fun _ hk => trivial)⟩, ⟨by (with_reducible repeat (first | refine blk_drewN ?_ _ | refine blk_drew ?_ | refine blk_alloc ?_ _)); refine blk_far ?_ NB540_541.out _; (with_reducible repeat (first | refine blk_drewN ?_ _ | refine blk_drew ?_ | refine blk_alloc ?_ _)); exact BK540.out⟩, ⟨by (with_reducible repeat (first | refine blk_drewN ?_ _ | refine blk_drew ?_ | refine blk_alloc ?_ _)); refine blk_put (cs := #[.int .i64 a0_0, u542001, .slice A0_2 l0_2.length c0_2]) ?_ 1 _ rfl; (with_reducible repeat (first | refine blk_drewN ?_ _ | refine blk_drew ?_ | refine blk_alloc ?_ _)); exact BK541.out⟩, ⟨pB⟩⟩
         · rw [if_neg c11] at H
           exact absurd H (by simp)
       · rw [if_neg c10] at H
         exact absurd H (by simp)
     · rw [if_neg c9] at H
       exact absurd H (by simp)
   · rw [if_neg c8] at H
     have c8b0 : decide (x14_1 < (l0_1.length : Int)) = false := decide_eq_false c8
     clear c8
     obtain ⟨t547, A210, H⟩ := bO H
     replace H : ((impl_sumOf.f k1 t547).bind fun t550 => (some t550)) = some r := H
     have A21 := Aside0.mk A210; clear A210
     obtain ⟨t550, A220, H⟩ := bO H
     replace H : (some t550) = some r := H
     have A22 := Aside0.mk A220; clear A220
     obtain rfl := Option.some.inj H
     have hnb23 := NB541_540.out
     have hnc23 := NB540_541.out
     obtain ⟨hcz24_0, hcz24_1, hcz24_2, hfz24_0, hfz24_1, hfz24_2⟩ := bx3 BK541
     obtain ⟨Ao25, co25, eo25⟩ := Kd.S_slice HO_542001.out
     subst eo25
     go_wp2_with (first | ((with_reducible refine gate_callee (f := 56) rfl ?_); refine goesL_ (some 30) rfl rfl Try.func56 (by kernel_rfl) rfl #[.agg #[.int .i64 a0_0, .slice Ao25 x542001_1.length co25, .slice A0_2 l0_2.length c0_2]] rfl pA ?_; (with_reducible refine (impl_packTx.calls k1 a0_0 _ _ x542001_1 _ _ l0_2 t547 _ ?side1 ?side2 ?side3 ?side4 A21.out).mono ?_); (case side1 => exact pC (Kd.S_reads' HO_542001.out).2.2); (case side2 => exact (Kd.S_reads' HO_542001.out).2.1); (case side3 => exact pC (Kd.C_below HR0_2.out HB.out)); (case side4 => exact HC0_2.out); rintro e w26 ⟨v548, rfl, ho0, hb⟩; refine ⟨_, rfl, ?_⟩; have n_ := t5 (Kd.S_below (by (with_reducible repeat (first | apply Kd.S_alloc | apply Kd.S_drewN | apply Kd.S_drew)); exact HO_542001.out) hb) (Kd.R_lower ho0 (below_size pB)) (blk_below (g := gb540) (o := .cells #[.int .i64 a0_0, .slice A0_1 l0_1.length c0_1, .slice A0_2 l0_2.length c0_2] 27 (0, 0)) (pK BK540) hb) (blk_below (g := gb541) (o := .cells #[.int .i64 a0_0, .slice Ao25 x542001_1.length co25, .slice A0_2 l0_2.length c0_2] 27 (0, 0)) (pK BK541) hb) (below_step pB hb); clear HO_542001 BK540 BK541 HB; obtain ⟨HO_542001, HO549, BK540, BK541, HB⟩ := n_; (try clear hb); (try clear ho0); obtain ⟨Ao27, co27, eo27⟩ := Kd.R_slice HO549.out; subst eo27) | ((with_reducible refine gate_callee (f := 55) rfl ?_); refine goesL_ (some 31) rfl rfl Try.func55 (by kernel_rfl) rfl #[.slice Ao27 t547.length co27] rfl pA ?_; (with_reducible refine (impl_sumOf.calls k1 _ _ t547 t550 _ ?side1 ?side2 A22.out).mono ?_); (case side1 => exact pC (Kd.R_reads' HO549.out).2.2); (case side2 => exact (Kd.R_reads' HO549.out).2.1); rintro e w' ⟨rfl, ⟨nd, rfl⟩⟩; refine ⟨_, rfl, ?_⟩))
     go_ret
     exact ⟨pE, pB⟩
def impl_txSums.l0 : Nat → List Int → List (S27) → Int → Int → Option (List Int)
 | 0, _, _, _, _ => none
 | k + 1, x3, x8, x9, x10 => if x10 < x9 then (if 0 ≤ x10 then (if x10 < (x8.length : Int) then ((impl_txSum.f k ((rd_T27 x8 x10).f0) ((rd_T27 x8 x10).f1) ((rd_T27 x8 x10).f2)).bind fun t557 => (if x3.length < 17592186044416 then (impl_txSums.l0 k (x3 ++ [t557]) x8 x9 (wrap64 (x10 + 1))) else (none))) else (none)) else (none)) else (some x3)
def impl_txSums.f (k : Nat) (a0_0 : Int) (a0_1 : Int) (a0_2 : Int) (a0_3 : Int) (l0_4 : List (S27)) : Option (List Int) := impl_txSums.l0 k (([] : List Int)) l0_4 (l0_4.length : Int) 0
theorem impl_txSums.mono_l : ∀ k, (∀ y0 y1 y2 y3, LeO (impl_txSums.l0 k y0 y1 y2 y3) (impl_txSums.l0 (k + 1) y0 y1 y2 y3))
 | 0 => fun _ _ _ _ r h => by simp [impl_txSums.l0] at h
 | k + 1 => by
  have ih0 := impl_txSums.mono_l k
  · intro y0 y1 y2 y3
    unfold impl_txSums.l0
    repeat' with_reducible first | exact ih0 _ _ _ _ | exact impl_txSum.mono _ _ _ _ | exact LeO.refl _ | exact LeO.none _ | refine LeO.ite ?_ ?_ | refine LeO.bind ?_ (fun _ => ?_)
theorem impl_txSums.mono : ∀ a0 a1 a2 a3 a4 k, LeO (impl_txSums.f k a0 a1 a2 a3 a4) (impl_txSums.f (k + 1) a0 a1 a2 a3 a4) := by
 intro a0 a1 a2 a3 a4 k
 have ih0 := impl_txSums.mono_l k
 unfold impl_txSums.f
 repeat' with_reducible first | exact ih0 _ _ _ _ | exact impl_txSum.mono _ _ _ _ | exact LeO.refl _ | exact LeO.none _ | refine LeO.ite ?_ ?_ | refine LeO.bind ?_ (fun _ => ?_)
theorem impl_txSums.calls (k : Nat) (a0_0 : Int) (a0_1 : Int) (a0_2 : Int) (a0_3 : Int) (A0_4 : Option Addr) (c0_4 : Nat) (l0_4 : List (S27)) (r : List Int) (w : World) (hr0_4 : Kd.C k27 w A0_4 l0_4.length l0_4) (hc0_4 : l0_4.length ≤ c0_4) (h : impl_txSums.f k a0_0 a0_1 a0_2 a0_3 l0_4 = some r) :
 Calls Try.prog 95 #[.agg #[.int .i64 a0_0, .int .i64 a0_1, .int .i64 a0_2, .int .i64 a0_3, .slice A0_4 l0_4.length c0_4]] w fun e w' => ∃ v0_ : Value, e = .returned (v0_) ∧ Kd.R (Kd.int .i64) 2 w' w.heap.size (fun _ => True) v0_ r ∧ Below w.heap.size w w' := by
 have hu72 := Try.underlying72
 have hu27 := Try.underlying27
 have HR0_4 := Aside0.mk hr0_4; have HC0_4 := Aside0.mk hc0_4; clear hr0_4 hc0_4
 have HB := Aside0.mk (Below.refl w.heap.size w)
 have H : (impl_txSums.l0 k (([] : List Int)) l0_4 (l0_4.length : Int) 0) = some r := h
 clear h
 obtain ⟨y552, hy552⟩ : ∃ y_ : List Int, y_ = (([] : List Int)) := ⟨_, rfl⟩
 replace H : (impl_txSums.l0 k y552 l0_4 (l0_4.length : Int) 0) = some r := by first | (rw [hy552]; with_reducible exact H) | (have H2_ := (Option.bind_some _ _).symm.trans H; rw [hy552]; with_reducible exact H2_) | (have H2_ := (Option.bind_some _ _).symm.trans H; with_reducible exact H2_) | with_reducible exact H | (rw [hy552]; exact H) | exact H
 have Ny552 := Aside0.mk hy552; clear hy552
 have H' := Aside0.mk H
 clear H
 go_enter Try.func95, Try.ntmps95
 go_wp2_with (first | ((with_reducible refine gate_dst (N := 1) rfl ?_); refine box_event ?hg (N := 1) ?hd (cs := #[.int .i64 a0_0, .int .i64 a0_1, .int .i64 a0_2, .int .i64 a0_3, .slice A0_4 l0_4.length c0_4]) (t := 72) ?hr ?_; (case hd => rfl); (case hg => rfl); (case hr => first | (go_simp; done) | (go_simp; rfl)); intro gb551 hg w2 hbox hb; have n_ := t4 (below_step pB hb) (hbox) ((by rw [hg]; exact (below_size pB) : w.heap.size ≤ gb551)) ((by rw [hg]; exact (below_size pB) : w.heap.size ≤ gb551)); clear HB; obtain ⟨HB, BK551, GW551, GE551⟩ := n_; clear hb hbox hg) | ((with_reducible refine gate_dst (N := 6) rfl ?_); refine Kd.R_lit (Kd.int .i64) _ 2 ?hg (N := 6) ?hd (xs := ([] : List Int)) (inner := []) (ok := fun _ => True) (okp := fun _ => True) ?hr ?hp (fun _ hk => hk) trivial (Below.refl _ _) (Nat.le_refl _) (by simp) ?_; (case hd => rfl); (case hg => rfl); (case hr => first | (go_simp; done) | (go_simp; rfl)); (case hp => exact (Reps.none _ _)); intro v553 w3 ho4 hb hg_ hnew_; clear hg_ hnew_; (first | rw [← Ny552.out] at ho4 | (simp only [Int.reduceToNat] at ho4; rw [← Ny552.out] at ho4)); have n_ := t3 (Kd.R_lower ho4 (below_size pB)) (blk_below (g := gb551) (o := .cells #[.int .i64 a0_0, .int .i64 a0_1, .int .i64 a0_2, .int .i64 a0_3, .slice A0_4 l0_4.length c0_4] 72 (0, 0)) (pK BK551) hb) (below_step pB hb); clear BK551 HB; obtain ⟨HO554, BK551, HB⟩ := n_; clear hb ho4; have hcz5_0 : w3.cell? ⟨gb551, 0, none⟩ = some (.int .i64 a0_0) := (blk_cell BK551.out 0).trans rfl; have hcz5_1 : w3.cell? ⟨gb551, 1, none⟩ = some (.int .i64 a0_1) := (blk_cell BK551.out 1).trans rfl; have hcz5_2 : w3.cell? ⟨gb551, 2, none⟩ = some (.int .i64 a0_2) := (blk_cell BK551.out 2).trans rfl; have hcz5_3 : w3.cell? ⟨gb551, 3, none⟩ = some (.int .i64 a0_3) := (blk_cell BK551.out 3).trans rfl; have hcz5_4 : w3.cell? ⟨gb551, 4, none⟩ = some (.slice A0_4 l0_4.length c0_4) := (blk_cell BK551.out 4).trans rfl; have hfz5_0 := blk_frozen BK551.out 0; have hfz5_1 := blk_frozen BK551.out 1; have hfz5_2 := blk_frozen BK551.out 2; have hfz5_3 := blk_frozen BK551.out 3; have hfz5_4 := blk_frozen BK551.out 4))
 go_loopg [3, 10] k (fun kq v3 v10 w' => ∃ (x3_1 : List Int) (x10_1 : Int), v10 = .int .i64 x10_1 ∧ Aside0 (impl_txSums.l0 kq x3_1 l0_4 (l0_4.length : Int) x10_1 = some r) ∧ Aside0 (kq ≤ k) ∧ Aside0 (Kd.R (Kd.int .i64) 2 w' w.heap.size (fun _ => True) v3 x3_1) ∧ Aside0 (w'.heap[gb551]? = some (.cells #[.int .i64 a0_0, .int .i64 a0_1, .int .i64 a0_2, .int .i64 a0_3, (.slice A0_4 l0_4.length c0_4)] 72 (0, 0))) ∧ Aside0 (Below w.heap.size w w'))
 case atStart => exact ⟨(y552), (0), pF, H', ⟨Nat.le_refl _⟩, ⟨(pR HO554)⟩, ⟨(pK BK551)⟩, ⟨pB⟩⟩
 case round =>
  clear H'
  (try clear p2); (try clear hcz5_0); (try clear hcz5_1); (try clear hcz5_2); (try clear hcz5_3); (try clear hcz5_4); (try clear hfz5_0); (try clear hfz5_1); (try clear hfz5_2); (try clear hfz5_3); (try clear hfz5_4)
  obtain ⟨x3_1, x10_1, rfl, HA, HK1, HO_3, BK551, HB⟩ := hrel
  cases gk with
  | zero => exact absurd HA.out (by simp [impl_txSums.l0])
  | succ k1 =>
   have H := HA.out
   clear HA
   simp only [impl_txSums.l0] at H
   by_cases c6 : x10_1 < (l0_4.length : Int)
   · rw [if_pos c6] at H
     have c6b0 : decide (x10_1 < (l0_4.length : Int)) = true := decide_eq_true c6
     clear c6
     by_cases c7 : 0 ≤ x10_1
     · rw [if_pos c7] at H
       have c7b0 : decide (0 ≤ x10_1) = true := decide_eq_true c7
       clear c7
       by_cases c8 : x10_1 < (l0_4.length : Int)
       · rw [if_pos c8] at H
         have c8b0 : decide (x10_1 < (l0_4.length : Int)) = true := decide_eq_true c8
         clear c8
         obtain ⟨t557, A90, H⟩ := bO H
         replace H : (if x3_1.length < 17592186044416 then (impl_txSums.l0 k1 (x3_1 ++ [t557]) l0_4 (l0_4.length : Int) (wrap64 (x10_1 + 1))) else (none)) = some r := H
         have A9 := Aside0.mk A90; clear A90
         by_cases c10 : x3_1.length < 17592186044416
         · rw [if_pos c10] at H
           have LMc10 := Aside0.mk c10; clear c10
           obtain ⟨y558, hy558⟩ : ∃ y_ : List Int, y_ = (x3_1 ++ [t557]) := ⟨_, rfl⟩
           replace H : (impl_txSums.l0 k1 y558 l0_4 (l0_4.length : Int) (wrap64 (x10_1 + 1))) = some r := by first | (rw [hy558]; with_reducible exact H) | (have H2_ := (Option.bind_some _ _).symm.trans H; rw [hy558]; with_reducible exact H2_) | (have H2_ := (Option.bind_some _ _).symm.trans H; with_reducible exact H2_) | with_reducible exact H | (rw [hy558]; exact H) | exact H
           have Ny558 := Aside0.mk hy558; clear hy558
           have H' := Aside0.mk H
           clear H
           have p555 : 0 ≤ (x10_1 : Int) := pD
           have q555 : x10_1 < (l0_4.length : Int) := pD
           obtain ⟨ad555, A555_1, c555_1, A555_2, c555_2, e555, hx555_0, hx555_1, hx555_2, hl555_1, hi555_1, hl555_2, hi555_2⟩ := at_T27 HR0_4.out x10_1 p555 q555
           cases e555; replace hx555_0 := cb HB hx555_0; replace hx555_1 := cb HB hx555_1; replace hx555_2 := cb HB hx555_2; have HR555_1 := Aside0.mk hi555_1; have HC555_1 := Aside0.mk hl555_1; clear hi555_1 hl555_1; have HR555_2 := Aside0.mk hi555_2; have HC555_2 := Aside0.mk hl555_2; clear hi555_2 hl555_2; replace p555 := eq_true p555; replace q555 := eq_true q555
           go_wp2_with (first | ((with_reducible refine gate_dst (N := 5) rfl ?_); refine box_event ?hg (N := 5) ?hd (cs := #[.int .i64 0, .slice none 0 0, .slice none 0 0]) (t := 27) ?hr ?_; (case hd => rfl); (case hg => rfl); (case hr => first | (go_simp; done) | (go_simp; rfl)); intro gb556 hg w11 hbox hb; have n_ := t8 (Kd.R_below (pR HO_3) hb) (blk_below (g := gb551) (o := .cells #[.int .i64 a0_0, .int .i64 a0_1, .int .i64 a0_2, .int .i64 a0_3, .slice (some ad555) l0_4.length c0_4] 72 (0, 0)) (pK BK551) hb) (below_step pB hb) (hbox) ((by rw [hg]; exact (below_size pB) : w.heap.size ≤ gb556)) ((by rw [hg]; exact (below_size pB) : w.heap.size ≤ gb556)) ((by rw [hg]; exact Nat.ne_of_lt (blk_lt (g := gb551) (o := .cells #[.int .i64 a0_0, .int .i64 a0_1, .int .i64 a0_2, .int .i64 a0_3, .slice (some ad555) l0_4.length c0_4] 72 (0, 0)) (pK BK551)) : gb551 ≠ gb556)) ((by rw [hg]; exact Nat.ne_of_gt (blk_lt (g := gb551) (o := .cells #[.int .i64 a0_0, .int .i64 a0_1, .int .i64 a0_2, .int .i64 a0_3, .slice (some ad555) l0_4.length c0_4] 72 (0, 0)) (pK BK551)) : gb556 ≠ gb551)); clear HO_3 BK551 HB; obtain ⟨HO_3, BK551, HB, BK556, GW556, GE556, NB551_556, NB556_551⟩ := n_; clear hb hbox hg; have hnb12 := NB556_551.out; have hnc12 := NB551_556.out; have hcz13_0 : w11.cell? ⟨gb556, 0, none⟩ = some (.int .i64 0) := (blk_cell BK556.out 0).trans rfl; have hcz13_1 : w11.cell? ⟨gb556, 1, none⟩ = some (.slice none 0 0) := (blk_cell BK556.out 1).trans rfl; have hcz13_2 : w11.cell? ⟨gb556, 2, none⟩ = some (.slice none 0 0) := (blk_cell BK556.out 2).trans rfl; have hfz13_0 := blk_frozen BK556.out 0; have hfz13_1 := blk_frozen BK556.out 1; have hfz13_2 := blk_frozen BK556.out 2) | ((with_reducible refine gate_callee (f := 52) rfl ?_); refine goesL_ (some 16) rfl rfl Try.func52 (by kernel_rfl) rfl #[.agg #[.int .i64 ((rd_T27 l0_4 x10_1).f0), .slice A555_1 ((rd_T27 l0_4 x10_1).f1).length c555_1, .slice A555_2 ((rd_T27 l0_4 x10_1).f2).length c555_2]] rfl pA ?_; (with_reducible refine (impl_txSum.calls k1 ((rd_T27 l0_4 x10_1).f0) _ _ ((rd_T27 l0_4 x10_1).f1) _ _ ((rd_T27 l0_4 x10_1).f2) t557 _ ?side1 ?side2 ?side3 ?side4 A9.out).mono ?_); (case side1 => exact Kd.C_below HR555_1.out pB); (case side2 => exact HC555_1.out); (case side3 => exact Kd.C_below HR555_2.out pB); (case side4 => exact HC555_2.out); rintro e w14 ⟨rfl, hb⟩; refine ⟨_, rfl, ?_⟩; have n_ := t4 (Kd.R_below (pT (Kd.R_mono (Kd.R_far (p := ⟨gb556, 2, none⟩) (Kd.R_far (p := ⟨gb556, 1, none⟩) (Kd.R_far (p := ⟨gb556, 0, none⟩) (Kd.R_types HO_3.out BK556.out (by decide)) (fun _ hk => hk.2) (.int .i64 ((rd_T27 l0_4 x10_1).f0))) (fun _ hk => hk.2) (.slice A555_1 ((rd_T27 l0_4 x10_1).f1).length c555_1)) (fun _ hk => hk.2) (.slice A555_2 ((rd_T27 l0_4 x10_1).f2).length c555_2)) (fun _ h_ => h_.1))) hb) (blk_below (g := gb551) (o := .cells #[.int .i64 a0_0, .int .i64 a0_1, .int .i64 a0_2, .int .i64 a0_3, .slice (some ad555) l0_4.length c0_4] 72 (0, 0)) (by (with_reducible repeat (first | refine blk_drewN ?_ _ | refine blk_drew ?_ | refine blk_alloc ?_ _)); refine blk_far ?_ NB551_556.out _; (with_reducible repeat (first | refine blk_drewN ?_ _ | refine blk_drew ?_ | refine blk_alloc ?_ _)); refine blk_far ?_ NB551_556.out _; (with_reducible repeat (first | refine blk_drewN ?_ _ | refine blk_drew ?_ | refine blk_alloc ?_ _)); refine blk_far ?_ NB551_556.out _; (with_reducible repeat (first | refine blk_drewN ?_ _ | refine blk_drew ?_ | refine blk_alloc ?_ _)); exact BK551.out) hb) (blk_below (g := gb556) (o := .cells #[.int .i64 ((rd_T27 l0_4 x10_1).f0), .slice A555_1 ((rd_T27 l0_4 x10_1).f1).length c555_1, .slice A555_2 ((rd_T27 l0_4 x10_1).f2).length c555_2] 27 (0, 0)) (by (with_reducible repeat (first | refine blk_drewN ?_ _ | refine blk_drew ?_ | refine blk_alloc ?_ _)); refine blk_put (cs := #[.int .i64 ((rd_T27 l0_4 x10_1).f0), .slice A555_1 ((rd_T27 l0_4 x10_1).f1).length c555_1, .slice none 0 0]) ?_ 2 _ rfl; (with_reducible repeat (first | refine blk_drewN ?_ _ | refine blk_drew ?_ | refine blk_alloc ?_ _)); refine blk_put (cs := #[.int .i64 ((rd_T27 l0_4 x10_1).f0), .slice none 0 0, .slice none 0 0]) ?_ 1 _ rfl; (with_reducible repeat (first | refine blk_drewN ?_ _ | refine blk_drew ?_ | refine blk_alloc ?_ _)); refine blk_put (cs := #[.int .i64 0, .slice none 0 0, .slice none 0 0]) ?_ 0 _ rfl; (with_reducible repeat (first | refine blk_drewN ?_ _ | refine blk_drew ?_ | refine blk_alloc ?_ _)); exact BK556.out) hb) (below_step pB hb); clear HO_3 BK551 BK556 HB; obtain ⟨HO_3, BK551, BK556, HB⟩ := n_; (try clear hb); (try clear hk)) | ((with_reducible refine gate_builtin (b := .append) (xs := #[.tmp 14, .tmp 17]) rfl ?_); at_builtin; refine Kd.R_append (Kd.int .i64) (w0 := w) w.heap.size rfl (.tmp 14) (.tmp 17) 32 2 (.int .i64 0) 8 rfl Try.underlying32 info2 rfl (by decide) (by omega) u3 x3_1 t557 [.int .i64 t557] (fun _ => True) (fun _ => False) rfl rfl ?aP (fun _ hk => hk.elim) ?aF ?aO ?aB ?aS ?aL ?_; (case aP => exact rfl); (case aB => exact pB); (case aF => exact (fun _ _ => trivial)); (case aO => exact (pR HO_3)); (case aS => exact (below_size pB)); (case aL => have := LMc10.out; omega); intro v559 w15 ho hb hg hat; rw [← Ny558.out] at ho; have n_ := t4 (blk_grown (g := gb551) (o := .cells #[.int .i64 a0_0, .int .i64 a0_1, .int .i64 a0_2, .int .i64 a0_3, .slice (some ad555) l0_4.length c0_4] 72 (0, 0)) (pK BK551) hg (Kd.R_ne HO_3.out BK551.out (by decide))) (blk_grown (g := gb556) (o := .cells #[.int .i64 ((rd_T27 l0_4 x10_1).f0), .slice A555_1 ((rd_T27 l0_4 x10_1).f1).length c555_1, .slice A555_2 ((rd_T27 l0_4 x10_1).f2).length c555_2] 27 (0, 0)) (pK BK556) hg (Kd.R_ne HO_3.out BK556.out (by decide))) (hb) (ho); clear BK551 BK556 HB HO_3; obtain ⟨BK551, BK556, HB, HO560⟩ := n_; clear ho hb hg hat))
           go_roundg k1
           case measure => have := HK1.out; omega
           case rel => exact ⟨(y558), (wrap64 (x10_1 + 1)), pF, H', ⟨by have := HK1.out; omega⟩, ⟨(pR HO560)⟩, ⟨(pK BK551)⟩, ⟨pB⟩⟩
         · rw [if_neg c10] at H
           exact absurd H (by simp)
       · rw [if_neg c8] at H
         exact absurd H (by simp)
     · rw [if_neg c7] at H
       exact absurd H (by simp)
   · rw [if_neg c6] at H
     have c6b0 : decide (x10_1 < (l0_4.length : Int)) = false := decide_eq_false c6
     clear c6
     obtain rfl := Option.some.inj H
     go_wp2
     go_ret
     exact ⟨_, pE, (pR HO_3), pB⟩
end Go.Proofs.Ythjlbpgiaehjnaa.QFnExactBlockFault
