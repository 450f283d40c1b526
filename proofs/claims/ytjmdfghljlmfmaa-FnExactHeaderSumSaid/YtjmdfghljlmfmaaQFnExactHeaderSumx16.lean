-- written by this session's program (wip/tools/myprint.py)
import Derived.Test.YtjmdfghljlmfmaaQFnExactHeaderSumx0
import Derived.Test.YtjmdfghljlmfmaaQFnExactHeaderSumx13
import Derived.Test.YtjmdfghljlmfmaaQFnExactHeaderSumx15
-- squeezed
namespace Go.Proofs.Ytjmdfghljlmfmaa.QFnExactHeaderSum
open Go.RowKit Go.Proofs.YtjmdfghljlmfmaaW.PrintWords Go.Proofs.YtjmdfghljlmfmaaW.PrintLast Go.Proofs.YtjmdfghljlmfmaaW.PrintMore
attribute [local go_sem] max2_int min2_int max_two min_two max_three min_three max_four min_four   -- for this text's walks alone
set_option linter.unusedVariables false
set_option linter.unusedSimpArgs false
set_option maxHeartbeats 8000000
set_option maxRecDepth 100000
def impl_txSum.l0 : Nat → List (S77) → Int → Int → Int → List (S77) → List (S80) → Option (Int)
 | 0, _, _, _, _, _, _ => none
 | k + 1, x12, x13, x14, x557000, x557001, x557002 => if x14 < x13 then (if 0 ≤ x14 then (if x14 < (x12.length : Int) then (if x557001.length < 3518437208883 then (impl_txSum.l0 k x12 x13 (wrap64 (x14 + 1)) x557000 (x557001 ++ [(⟨(rd_T77 x12 x14).f0, (rd_T77 x12 x14).f1, ([] : List Int)⟩ : S77)]) x557002) else (none)) else (none)) else (none)) else ((impl_packTx.f k x557000 x557001 x557002).bind fun t562 => ((impl_sumOf.f k t562).bind fun t565 => (some t565)))
def impl_txSum.f (k : Nat) (a0_0 : Int) (l0_1 : List (S77)) (l0_2 : List (S80)) : Option (Int) := impl_txSum.l0 k l0_1 (l0_1.length : Int) 0 a0_0 ([] : List (S77)) l0_2
theorem impl_txSum.mono_l : ∀ k, (∀ y0 y1 y2 y3 y4 y5, LeO (impl_txSum.l0 k y0 y1 y2 y3 y4 y5) (impl_txSum.l0 (k + 1) y0 y1 y2 y3 y4 y5))
 | 0 => fun _ _ _ _ _ _ r h => by simp [impl_txSum.l0] at h
 | k + 1 => by
  have ih0 := impl_txSum.mono_l k
  · intro y0 y1 y2 y3 y4 y5
    unfold impl_txSum.l0
    repeat' with_reducible first | exact ih0 _ _ _ _ _ _ | exact impl_packTx.mono _ _ _ _ | exact impl_sumOf.mono _ _ | exact LeO.refl _ | exact LeO.none _ | refine LeO.ite ?_ ?_ | refine LeO.bind ?_ (fun _ => ?_)
theorem impl_txSum.mono : ∀ a0 a1 a2 k, LeO (impl_txSum.f k a0 a1 a2) (impl_txSum.f (k + 1) a0 a1 a2) := by
 intro a0 a1 a2 k
 have ih0 := impl_txSum.mono_l k
 unfold impl_txSum.f
 repeat' with_reducible first | exact ih0 _ _ _ _ _ _ | exact impl_packTx.mono _ _ _ _ | exact impl_sumOf.mono _ _ | exact LeO.refl _ | exact LeO.none _ | refine LeO.ite ?_ ?_ | refine LeO.bind ?_ (fun _ => ?_)
theorem impl_txSum.calls (k : Nat) (a0_0 : Int) (A0_1 : Option Addr) (c0_1 : Nat) (l0_1 : List (S77)) (A0_2 : Option Addr) (c0_2 : Nat) (l0_2 : List (S80)) (r : Int) (w : World) (hr0_1 : Kd.C k77 w A0_1 l0_1.length l0_1) (hc0_1 : l0_1.length ≤ c0_1) (hr0_2 : Kd.C k80 w A0_2 l0_2.length l0_2) (hc0_2 : l0_2.length ≤ c0_2) (h : impl_txSum.f k a0_0 l0_1 l0_2 = some r) :
 Calls Try.prog 54 #[.agg #[.int .i64 a0_0, .slice A0_1 l0_1.length c0_1, .slice A0_2 l0_2.length c0_2]] w fun e w' => e = .returned (.int .i64 r) ∧ Below w.heap.size w w' := by
 have hu54 := Try.underlying54
 have hu77 := Try.underlying77
 have HR0_1 := am hr0_1; have HC0_1 := am hc0_1; clear hr0_1 hc0_1; have HR0_2 := am hr0_2; have HC0_2 := am hc0_2; clear hr0_2 hc0_2
 have HB := am (Below.refl w.heap.size w)
 have H : (impl_txSum.l0 k l0_1 (l0_1.length : Int) 0 a0_0 ([] : List (S77)) l0_2) = some r := h
 clear h
 have H' := am H
 clear H
 go_enter Try.func54, Try.ntmps54
 go_wp2_with (first | ((with_reducible refine gate_dst (N := 1) rfl ?_); refine box_event ?hg (N := 1) ?hd (cs := #[.int .i64 a0_0, .slice A0_1 l0_1.length c0_1, .slice A0_2 l0_2.length c0_2]) (t := 54) ?hr ?_; (case hd => rfl); (case hg => rfl); (case hr => first | (go_simp; done) | (go_simp; rfl)); intro gb555 hg w2 hbox hb; have n_ := t4 (bz_ pB hb) (hbox) ((by rw [hg]; exact (bs_ pB) : w.heap.size ≤ gb555)) ((by rw [hg]; exact (bs_ pB) : w.heap.size ≤ gb555)); clear HB; obtain ⟨HB, BK555, GW555, GE555⟩ := n_; clear hb hbox hg; have hcz3_0 : w2.cell? ⟨gb555, 0, none⟩ = some (.int .i64 a0_0) := (blk_cell BK555.out 0).trans rfl; have hcz3_1 : w2.cell? ⟨gb555, 1, none⟩ = some (.slice A0_1 l0_1.length c0_1) := (blk_cell BK555.out 1).trans rfl; have hcz3_2 : w2.cell? ⟨gb555, 2, none⟩ = some (.slice A0_2 l0_2.length c0_2) := (blk_cell BK555.out 2).trans rfl; have hfz3_0 := blk_frozen BK555.out 0; have hfz3_1 := blk_frozen BK555.out 1; have hfz3_2 := blk_frozen BK555.out 2) | ((with_reducible refine gate_dst (N := 3) rfl ?_); refine box_event ?hg (N := 3) ?hd (cs := #[.int .i64 0, .slice none 0 0, .slice none 0 0]) (t := 54) ?hr ?_; (case hd => rfl); (case hg => rfl); (case hr => first | (go_simp; done) | (go_simp; rfl)); intro gb556 hg w4 hbox hb; have n_ := t7 (blk_below (g := gb555) (o := .cells #[.int .i64 a0_0, .slice A0_1 l0_1.length c0_1, .slice A0_2 l0_2.length c0_2] 54 (0, 0)) (pK BK555) hb) (bz_ pB hb) (hbox) ((by rw [hg]; exact (bs_ pB) : w.heap.size ≤ gb556)) ((by rw [hg]; exact (bs_ pB) : w.heap.size ≤ gb556)) ((by rw [hg]; exact Nat.ne_of_lt (blk_lt (g := gb555) (o := .cells #[.int .i64 a0_0, .slice A0_1 l0_1.length c0_1, .slice A0_2 l0_2.length c0_2] 54 (0, 0)) (pK BK555)) : gb555 ≠ gb556)) ((by rw [hg]; exact Nat.ne_of_gt (blk_lt (g := gb555) (o := .cells #[.int .i64 a0_0, .slice A0_1 l0_1.length c0_1, .slice A0_2 l0_2.length c0_2] 54 (0, 0)) (pK BK555)) : gb556 ≠ gb555)); clear BK555 HB; obtain ⟨BK555, HB, BK556, GW556, GE556, NB555_556, NB556_555⟩ := n_; clear hb hbox hg; have hnb5 := NB556_555.out; have hnc5 := NB555_556.out; have hcz6_0 : w4.cell? ⟨gb556, 0, none⟩ = some (.int .i64 0) := (blk_cell BK556.out 0).trans rfl; have hcz6_1 : w4.cell? ⟨gb556, 1, none⟩ = some (.slice none 0 0) := (blk_cell BK556.out 1).trans rfl; have hcz6_2 : w4.cell? ⟨gb556, 2, none⟩ = some (.slice none 0 0) := (blk_cell BK556.out 2).trans rfl; have hfz6_0 := blk_frozen BK556.out 0; have hfz6_1 := blk_frozen BK556.out 1; have hfz6_2 := blk_frozen BK556.out 2; have hcz7_0 : w4.cell? ⟨gb555, 0, none⟩ = some (.int .i64 a0_0) := (blk_cell BK555.out 0).trans rfl; have hcz7_1 : w4.cell? ⟨gb555, 1, none⟩ = some (.slice A0_1 l0_1.length c0_1) := (blk_cell BK555.out 1).trans rfl; have hcz7_2 : w4.cell? ⟨gb555, 2, none⟩ = some (.slice A0_2 l0_2.length c0_2) := (blk_cell BK555.out 2).trans rfl; have hfz7_0 := blk_frozen BK555.out 0; have hfz7_1 := blk_frozen BK555.out 1; have hfz7_2 := blk_frozen BK555.out 2))
 go_loopg [14] k (fun kq v14 w' => ∃ (x14_1 : Int) (x557001_1 : List (S77)) (u557001 : Value), v14 = .int .i64 x14_1 ∧ Aside0 (impl_txSum.l0 kq l0_1 (l0_1.length : Int) x14_1 a0_0 x557001_1 l0_2 = some r) ∧ Aside0 (kq ≤ k) ∧ Aside0 (Kd.S k77 77 w' w.heap.size (fun _ => True) u557001 x557001_1) ∧ Aside0 (w'.heap[gb555]? = some (.cells #[.int .i64 a0_0, (.slice A0_1 l0_1.length c0_1), (.slice A0_2 l0_2.length c0_2)] 54 (0, 0))) ∧ Aside0 (w'.heap[gb556]? = some (.cells #[.int .i64 a0_0, u557001, (.slice A0_2 l0_2.length c0_2)] 54 (0, 0))) ∧ Aside0 (Below w.heap.size w w'))
 case atStart => exact ⟨(0), (([] : List (S77))), (.slice none 0 0), pF, H', ⟨Nat.le_refl _⟩, ⟨by first | exact Kd.S_nil _ _ _ _ _ | exact Kd.N_nil _ _ _ _ _ | exact Kd.V_nil _ _ _ _ _ | exact Kd.Q_nil _ _ _ _ _ | exact Kd.R_nil _ _ _ _ _⟩, ⟨by (with_reducible repeat (first | refine blk_drewN ?_ _ | refine blk_drew ?_ | refine blk_alloc ?_ _)); refine blk_far ?_ NB555_556.out _; (with_reducible repeat (first | refine blk_drewN ?_ _ | refine blk_drew ?_ | refine blk_alloc ?_ _)); refine blk_far ?_ NB555_556.out _; (with_reducible repeat (first | refine blk_drewN ?_ _ | refine blk_drew ?_ | refine blk_alloc ?_ _)); refine blk_far ?_ NB555_556.out _; (with_reducible repeat (first | refine blk_drewN ?_ _ | refine blk_drew ?_ | refine blk_alloc ?_ _)); exact BK555.out⟩, ⟨by (with_reducible repeat (first | refine blk_drewN ?_ _ | refine blk_drew ?_ | refine blk_alloc ?_ _)); refine blk_put (cs := #[.int .i64 a0_0, .slice none 0 0, .slice none 0 0]) ?_ 2 _ rfl; (with_reducible repeat (first | refine blk_drewN ?_ _ | refine blk_drew ?_ | refine blk_alloc ?_ _)); refine blk_put (cs := #[.int .i64 a0_0, .slice none 0 0, .slice none 0 0]) ?_ 1 _ rfl; (with_reducible repeat (first | refine blk_drewN ?_ _ | refine blk_drew ?_ | refine blk_alloc ?_ _)); refine blk_put (cs := #[.int .i64 0, .slice none 0 0, .slice none 0 0]) ?_ 0 _ rfl; (with_reducible repeat (first | refine blk_drewN ?_ _ | refine blk_drew ?_ | refine blk_alloc ?_ _)); exact BK556.out⟩, ⟨pB⟩⟩
 case round =>
  clear H'
  (try clear hcz3_0); (try clear hcz3_1); (try clear hcz3_2); (try clear hcz6_0); (try clear hcz6_1); (try clear hcz6_2); (try clear hcz7_0); (try clear hcz7_1); (try clear hcz7_2); (try clear hfz3_0); (try clear hfz3_1); (try clear hfz3_2); (try clear hfz6_0); (try clear hfz6_1); (try clear hfz6_2); (try clear hfz7_0); (try clear hfz7_1); (try clear hfz7_2)
  obtain ⟨x14_1, x557001_1, u557001, rfl, HA, HK1, HO_557001, BK555, BK556, HB⟩ := hrel
  cases gk with
  | zero => exact absurd HA.out (by simp [impl_txSum.l0])
  | succ k1 =>
   have H := HA.out
   clear HA
   simp only [impl_txSum.l0] at H
   by_cases c8 : x14_1 < (l0_1.length : Int)
   · rw [if_pos c8] at H
     have c8b0 : decide (x14_1 < (l0_1.length : Int)) = true := dt c8
     clear c8
     by_cases c9 : 0 ≤ x14_1
     · rw [if_pos c9] at H
       have c9b0 : decide (0 ≤ x14_1) = true := dt c9
       clear c9
       by_cases c10 : x14_1 < (l0_1.length : Int)
       · rw [if_pos c10] at H
         have c10b0 : decide (x14_1 < (l0_1.length : Int)) = true := dt c10
         clear c10
         by_cases c11 : x557001_1.length < 3518437208883
         · rw [if_pos c11] at H
           have LMc11 := am c11; clear c11
           obtain ⟨y559, hy559⟩ : ∃ y_ : List (S77), y_ = (x557001_1 ++ [(⟨(rd_T77 l0_1 x14_1).f0, (rd_T77 l0_1 x14_1).f1, ([] : List Int)⟩ : S77)]) := ⟨_, rfl⟩
           replace H : (impl_txSum.l0 k1 l0_1 (l0_1.length : Int) (wrap64 (x14_1 + 1)) a0_0 y559 l0_2) = some r := by first | (rw [hy559]; with_reducible exact H) | (have H2_ := (Option.bind_some _ _).symm.trans H; rw [hy559]; with_reducible exact H2_) | (have H2_ := (Option.bind_some _ _).symm.trans H; with_reducible exact H2_) | with_reducible exact H | (rw [hy559]; exact H) | exact H
           have Ny559 := am hy559; clear hy559
           have H' := am H
           clear H
           have p557 : 0 ≤ (x14_1 : Int) := pD
           have q557 : x14_1 < (l0_1.length : Int) := pD
           obtain ⟨ad557, A557_2, c557_2, e557, hx557_0, hx557_1, hx557_2, hl557_2, hi557_2⟩ := at_T77 HR0_1.out x14_1 p557 q557
           cases e557; replace hx557_0 := cb HB hx557_0; replace hx557_1 := cb HB hx557_1; replace hx557_2 := cb HB hx557_2; have HR557_2 := am hi557_2; have HC557_2 := am hl557_2; clear hi557_2 hl557_2; replace p557 := eq_true p557; replace q557 := eq_true q557
           go_wp2_with (first | ((with_reducible refine gate_dst (N := 5) rfl ?_); refine box_event ?hg (N := 5) ?hd (cs := #[.int .i64 0, .int .i64 0, .slice none 0 0]) (t := 77) ?hr ?_; (case hd => rfl); (case hg => rfl); (case hr => first | (go_simp; done) | (go_simp; rfl)); intro gb558 hg w12 hbox hb; have n0_ := am (Kd.S_below (Kd.S_elderB (by (with_reducible repeat (first | apply Kd.S_alloc | apply Kd.S_drewN | apply Kd.S_drew)); exact HO_557001.out) gb558 (Nat.le_of_eq hg.symm)) hb); have n1_ := am (blk_below (g := gb555) (o := .cells #[.int .i64 a0_0, .slice (some ad557) l0_1.length c0_1, .slice A0_2 l0_2.length c0_2] 54 (0, 0)) (pK BK555) hb); have n2_ := am (blk_below (g := gb556) (o := .cells #[.int .i64 a0_0, u557001, .slice A0_2 l0_2.length c0_2] 54 (0, 0)) (pK BK556) hb); have n3_ := am (bz_ pB hb); have n4_ := am (hbox); have n5_ := am ((by rw [hg]; exact (bs_ pB) : w.heap.size ≤ gb558)); have n6_ := am ((by rw [hg]; exact (bs_ pB) : w.heap.size ≤ gb558)); have n7_ := am ((by rw [hg]; exact Nat.ne_of_lt (blk_lt (g := gb555) (o := .cells #[.int .i64 a0_0, .slice (some ad557) l0_1.length c0_1, .slice A0_2 l0_2.length c0_2] 54 (0, 0)) (pK BK555)) : gb555 ≠ gb558)); have n8_ := am ((by rw [hg]; exact Nat.ne_of_gt (blk_lt (g := gb555) (o := .cells #[.int .i64 a0_0, .slice (some ad557) l0_1.length c0_1, .slice A0_2 l0_2.length c0_2] 54 (0, 0)) (pK BK555)) : gb558 ≠ gb555)); have n9_ := am ((by rw [hg]; exact Nat.ne_of_lt (blk_lt (g := gb556) (o := .cells #[.int .i64 a0_0, u557001, .slice A0_2 l0_2.length c0_2] 54 (0, 0)) (pK BK556)) : gb556 ≠ gb558)); have n10_ := am ((by rw [hg]; exact Nat.ne_of_gt (blk_lt (g := gb556) (o := .cells #[.int .i64 a0_0, u557001, .slice A0_2 l0_2.length c0_2] 54 (0, 0)) (pK BK556)) : gb558 ≠ gb556)); clear HO_557001; clear BK555; clear BK556; clear HB; have HO_557001 := n0_; have BK555 := n1_; have BK556 := n2_; have HB := n3_; have BK558 := n4_; have GW558 := n5_; have GE558 := n6_; have NB555_558 := n7_; have NB558_555 := n8_; have NB556_558 := n9_; have NB558_556 := n10_; clear n0_ n1_ n2_ n3_ n4_ n5_ n6_ n7_ n8_ n9_ n10_; clear hb hbox hg; have hnb13 := NB558_555.out; have hnc13 := NB555_558.out; have hnb14 := NB558_556.out; have hnc14 := NB556_558.out; have hcz15_0 : w12.cell? ⟨gb558, 0, none⟩ = some (.int .i64 0) := (blk_cell BK558.out 0).trans rfl; have hcz15_1 : w12.cell? ⟨gb558, 1, none⟩ = some (.int .i64 0) := (blk_cell BK558.out 1).trans rfl; have hcz15_2 : w12.cell? ⟨gb558, 2, none⟩ = some (.slice none 0 0) := (blk_cell BK558.out 2).trans rfl; have hfz15_0 := blk_frozen BK558.out 0; have hfz15_1 := blk_frozen BK558.out 1; have hfz15_2 := blk_frozen BK558.out 2; have hnb16 := NB556_555.out; have hnc16 := NB555_556.out; have hcz17_0 : w12.cell? ⟨gb556, 0, none⟩ = some (.int .i64 a0_0) := (blk_cell BK556.out 0).trans rfl; have hcz17_1 : w12.cell? ⟨gb556, 1, none⟩ = some (u557001) := (blk_cell BK556.out 1).trans rfl; have hcz17_2 : w12.cell? ⟨gb556, 2, none⟩ = some (.slice A0_2 l0_2.length c0_2) := (blk_cell BK556.out 2).trans rfl; have hfz17_0 := blk_frozen BK556.out 0; have hfz17_1 := blk_frozen BK556.out 1; have hfz17_2 := blk_frozen BK556.out 2) | ((with_reducible refine gB (b := .append) (xs := #[.tmp 19, .tmp 25]) rfl ?_); at_builtin; refine Kd.S_append k77 (w0 := w) w.heap.size rfl (.tmp 19) (.tmp 25) 51 77 (.agg #[(.int .i64 0), (.int .i64 0), (.slice none 0 0)]) 40 rfl Try.underlying51 info77 rfl (by decide) (by omega) u557001 x557001_1 (⟨(rd_T77 l0_1 x14_1).f0, (rd_T77 l0_1 x14_1).f1, ([] : List Int)⟩ : S77) [.int .i64 ((rd_T77 l0_1 x14_1).f0), .int .i64 ((rd_T77 l0_1 x14_1).f1), .slice none 0 0] (fun k_ => k_ ≠ gb558) (fun _ => False) rfl (by first | (go_simp; done) | (go_simp; rfl)) ?aP (fun k_ hk_ => hk_.elim) ?aF ?aO ?aB ?aS ?aL ?_; (case aP => exact k77_mkM _ _ _ (⟨(rd_T77 l0_1 x14_1).f0, (rd_T77 l0_1 x14_1).f1, ([] : List Int)⟩ : S77) (Kd.R_nil _ _ _ _ _)); (case aB => exact pB); (case aF => exact (fun k_ hk => Kd.freshB (g := gb558) (o := .cells #[.int .i64 ((rd_T77 l0_1 x14_1).f0), .int .i64 ((rd_T77 l0_1 x14_1).f1), .slice A557_2 ((rd_T77 l0_1 x14_1).f2).length c557_2] 77 (0, 0)) (by (with_reducible repeat (first | refine blk_drewN ?_ _ | refine blk_drew ?_ | refine blk_alloc ?_ _)); refine blk_put (cs := #[.int .i64 ((rd_T77 l0_1 x14_1).f0), .int .i64 ((rd_T77 l0_1 x14_1).f1), .slice none 0 0]) ?_ 2 _ rfl; (with_reducible repeat (first | refine blk_drewN ?_ _ | refine blk_drew ?_ | refine blk_alloc ?_ _)); refine blk_put (cs := #[.int .i64 ((rd_T77 l0_1 x14_1).f0), .int .i64 0, .slice none 0 0]) ?_ 1 _ rfl; (with_reducible repeat (first | refine blk_drewN ?_ _ | refine blk_drew ?_ | refine blk_alloc ?_ _)); refine blk_put (cs := #[.int .i64 0, .int .i64 0, .slice none 0 0]) ?_ 0 _ rfl; (with_reducible repeat (first | refine blk_drewN ?_ _ | refine blk_drew ?_ | refine blk_alloc ?_ _)); exact BK558.out) k_ hk)); (case aO => exact (by (with_reducible repeat (first | apply Kd.S_alloc | apply Kd.S_drewN | apply Kd.S_drew)); exact Kd.S_mono (Kd.S_far (p := ⟨gb558, 2, none⟩) (Kd.S_far (p := ⟨gb558, 1, none⟩) (Kd.S_far (p := ⟨gb558, 0, none⟩) (Kd.S_mono HO_557001.out (fun k_ hk => (⟨hk, hk.2⟩ : _ ∧ k_ ≠ gb558))) (fun _ hk => hk.2) (.int .i64 ((rd_T77 l0_1 x14_1).f0))) (fun _ hk => hk.2) (.int .i64 ((rd_T77 l0_1 x14_1).f1))) (fun _ hk => hk.2) (.slice A557_2 ((rd_T77 l0_1 x14_1).f2).length c557_2)) (fun k_ hk => ⟨hk.1.2, fun e_ => e_⟩))); (case aS => exact (bs_ pB)); (case aL => have := LMc11.out; omega); intro v560 w18 ho hb hg hat; rw [← Ny559.out] at ho; have n_ := t5 (blk_grown (g := gb555) (o := .cells #[.int .i64 a0_0, .slice (some ad557) l0_1.length c0_1, .slice A0_2 l0_2.length c0_2] 54 (0, 0)) (by (with_reducible repeat (first | refine blk_drewN ?_ _ | refine blk_drew ?_ | refine blk_alloc ?_ _)); refine blk_far ?_ NB555_558.out _; (with_reducible repeat (first | refine blk_drewN ?_ _ | refine blk_drew ?_ | refine blk_alloc ?_ _)); refine blk_far ?_ NB555_558.out _; (with_reducible repeat (first | refine blk_drewN ?_ _ | refine blk_drew ?_ | refine blk_alloc ?_ _)); refine blk_far ?_ NB555_558.out _; (with_reducible repeat (first | refine blk_drewN ?_ _ | refine blk_drew ?_ | refine blk_alloc ?_ _)); exact BK555.out) hg (Kd.S_ne HO_557001.out BK555.out (by decide))) (blk_grown (g := gb556) (o := .cells #[.int .i64 a0_0, u557001, .slice A0_2 l0_2.length c0_2] 54 (0, 0)) (by (with_reducible repeat (first | refine blk_drewN ?_ _ | refine blk_drew ?_ | refine blk_alloc ?_ _)); refine blk_far ?_ NB556_558.out _; (with_reducible repeat (first | refine blk_drewN ?_ _ | refine blk_drew ?_ | refine blk_alloc ?_ _)); refine blk_far ?_ NB556_558.out _; (with_reducible repeat (first | refine blk_drewN ?_ _ | refine blk_drew ?_ | refine blk_alloc ?_ _)); refine blk_far ?_ NB556_558.out _; (with_reducible repeat (first | refine blk_drewN ?_ _ | refine blk_drew ?_ | refine blk_alloc ?_ _)); exact BK556.out) hg (Kd.S_ne HO_557001.out BK556.out (by decide))) (blk_grown (g := gb558) (o := .cells #[.int .i64 ((rd_T77 l0_1 x14_1).f0), .int .i64 ((rd_T77 l0_1 x14_1).f1), .slice A557_2 ((rd_T77 l0_1 x14_1).f2).length c557_2] 77 (0, 0)) (by (with_reducible repeat (first | refine blk_drewN ?_ _ | refine blk_drew ?_ | refine blk_alloc ?_ _)); refine blk_put (cs := #[.int .i64 ((rd_T77 l0_1 x14_1).f0), .int .i64 ((rd_T77 l0_1 x14_1).f1), .slice none 0 0]) ?_ 2 _ rfl; (with_reducible repeat (first | refine blk_drewN ?_ _ | refine blk_drew ?_ | refine blk_alloc ?_ _)); refine blk_put (cs := #[.int .i64 ((rd_T77 l0_1 x14_1).f0), .int .i64 0, .slice none 0 0]) ?_ 1 _ rfl; (with_reducible repeat (first | refine blk_drewN ?_ _ | refine blk_drew ?_ | refine blk_alloc ?_ _)); refine blk_put (cs := #[.int .i64 0, .int .i64 0, .slice none 0 0]) ?_ 0 _ rfl; (with_reducible repeat (first | refine blk_drewN ?_ _ | refine blk_drew ?_ | refine blk_alloc ?_ _)); exact BK558.out) hg (Kd.S_away HO_557001.out (fun _ hk => hk.2))) (hb) (ho); clear BK555 BK556 BK558 HB HO_557001; obtain ⟨BK555, BK556, BK558, HB, HO561⟩ := n_; clear ho hb hg hat; obtain ⟨Ao19, co19, eo19⟩ := Kd.S_slice HO561.out; subst eo19; have hcz20_0 : w18.cell? ⟨gb556, 0, none⟩ = some (.int .i64 a0_0) := (blk_cell BK556.out 0).trans rfl; have hcz20_1 : w18.cell? ⟨gb556, 1, none⟩ = some (u557001) := (blk_cell BK556.out 1).trans rfl; have hcz20_2 : w18.cell? ⟨gb556, 2, none⟩ = some (.slice A0_2 l0_2.length c0_2) := (blk_cell BK556.out 2).trans rfl; have hfz20_0 := blk_frozen BK556.out 0; have hfz20_1 := blk_frozen BK556.out 1; have hfz20_2 := blk_frozen BK556.out 2))
           go_roundg k1
           case measure => have := HK1.out; omega
           case rel => exact ⟨(wrap64 (x14_1 + 1)), (y559), (.slice Ao19 y559.length co19), pF, H', ⟨by have := HK1.out; omega⟩, ⟨by (with_reducible repeat (first | apply Kd.S_alloc | apply Kd.S_drewN | apply Kd.S_drew)); exact Kd.S_mono (Kd.S_far (p := ⟨gb556, 1, none⟩) (Kd.S_types HO561.out BK556.out (by decide)) (fun _ hk => hk.2) (.slice Ao19 y559.length co19)) (fun _ hk => trivial)⟩, ⟨by (with_reducible repeat (first | refine blk_drewN ?_ _ | refine blk_drew ?_ | refine blk_alloc ?_ _)); refine blk_far ?_ NB555_556.out _; (with_reducible repeat (first | refine blk_drewN ?_ _ | refine blk_drew ?_ | refine blk_alloc ?_ _)); exact BK555.out⟩, ⟨by (with_reducible repeat (first | refine blk_drewN ?_ _ | refine blk_drew ?_ | refine blk_alloc ?_ _)); refine blk_put (cs := #[.int .i64 a0_0, u557001, .slice A0_2 l0_2.length c0_2]) ?_ 1 _ rfl; (with_reducible repeat (first | refine blk_drewN ?_ _ | refine blk_drew ?_ | refine blk_alloc ?_ _)); exact BK556.out⟩, ⟨pB⟩⟩
         · rw [if_neg c11] at H
           exact absurd H (by simp)
       · rw [if_neg c10] at H
         exact absurd H (by simp)
     · rw [if_neg c9] at H
       exact absurd H (by simp)
   · rw [if_neg c8] at H
     have c8b0 : decide (x14_1 < (l0_1.length : Int)) = false := decide_eq_false c8
     clear c8
     obtain ⟨t562, A210, H⟩ := bO H
     replace H : ((impl_sumOf.f k1 t562).bind fun t565 => (some t565)) = some r := H
     have A21 := am A210; clear A210
     obtain ⟨t565, A220, H⟩ := bO H
     replace H : (some t565) = some r := H
     have A22 := am A220; clear A220
     obtain rfl := sj H
     have hnb23 := NB556_555.out
     have hnc23 := NB555_556.out
     obtain ⟨hcz24_0, hcz24_1, hcz24_2, hfz24_0, hfz24_1, hfz24_2⟩ := bx3 BK556
     obtain ⟨Ao25, co25, eo25⟩ := Kd.S_slice HO_557001.out
     subst eo25
     go_wp2_with (first | ((with_reducible refine gC (f := 76) rfl ?_); refine goesL_ (some 30) rfl rfl Try.func76 (by kernel_rfl) rfl #[.agg #[.int .i64 a0_0, .slice Ao25 x557001_1.length co25, .slice A0_2 l0_2.length c0_2]] rfl pA ?_; (with_reducible refine (impl_packTx.calls k1 a0_0 _ _ x557001_1 _ _ l0_2 t562 _ ?side1 ?side2 ?side3 ?side4 A21.out).mono ?_); (case side1 => exact pC (Kd.S_reads' HO_557001.out).2.2); (case side2 => exact (Kd.S_reads' HO_557001.out).2.1); (case side3 => exact pC (Kd.C_below HR0_2.out HB.out)); (case side4 => exact HC0_2.out); rintro e w26 ⟨v563, rfl, ho0, hb⟩; refine ⟨_, rfl, ?_⟩; have n_ := t5 (Kd.S_below (by (with_reducible repeat (first | apply Kd.S_alloc | apply Kd.S_drewN | apply Kd.S_drew)); exact HO_557001.out) hb) (rL ho0 (bs_ pB)) (blk_below (g := gb555) (o := .cells #[.int .i64 a0_0, .slice A0_1 l0_1.length c0_1, .slice A0_2 l0_2.length c0_2] 54 (0, 0)) (pK BK555) hb) (blk_below (g := gb556) (o := .cells #[.int .i64 a0_0, .slice Ao25 x557001_1.length co25, .slice A0_2 l0_2.length c0_2] 54 (0, 0)) (pK BK556) hb) (bz_ pB hb); clear HO_557001 BK555 BK556 HB; obtain ⟨HO_557001, HO564, BK555, BK556, HB⟩ := n_; (try clear hb); (try clear ho0); obtain ⟨Ao27, co27, eo27⟩ := rS HO564.out; subst eo27) | ((with_reducible refine gC (f := 56) rfl ?_); refine goesL_ (some 31) rfl rfl Try.func56 (by kernel_rfl) rfl #[.slice Ao27 t562.length co27] rfl pA ?_; (with_reducible refine (impl_sumOf.calls k1 _ _ t562 t565 _ ?side1 ?side2 A22.out).mono ?_); (case side1 => exact pC (rr HO564.out).2.2); (case side2 => exact (rr HO564.out).2.1); rintro e w' ⟨rfl, ⟨nd, rfl⟩⟩; refine ⟨_, rfl, ?_⟩))
     go_ret
     exact ⟨pE, pB⟩
def impl_txSums.l0 : Nat → List Int → List (S54) → Int → Int → Option (List Int)
 | 0, _, _, _, _ => none
 | k + 1, x3, x8, x9, x10 => if x10 < x9 then (if 0 ≤ x10 then (if x10 < (x8.length : Int) then ((impl_txSum.f k ((rd_T54 x8 x10).f0) ((rd_T54 x8 x10).f1) ((rd_T54 x8 x10).f2)).bind fun t572 => (if x3.length < 17592186044416 then (impl_txSums.l0 k (x3 ++ [t572]) x8 x9 (wrap64 (x10 + 1))) else (none))) else (none)) else (none)) else (some x3)
def impl_txSums.f (k : Nat) (a0_0 : Int) (a0_1 : Int) (a0_2 : Int) (a0_3 : Int) (l0_4 : List (S54)) : Option (List Int) := impl_txSums.l0 k (([] : List Int)) l0_4 (l0_4.length : Int) 0
theorem impl_txSums.mono_l : ∀ k, (∀ y0 y1 y2 y3, LeO (impl_txSums.l0 k y0 y1 y2 y3) (impl_txSums.l0 (k + 1) y0 y1 y2 y3))
 | 0 => fun _ _ _ _ r h => by simp [impl_txSums.l0] at h
 | k + 1 => by
  have ih0 := impl_txSums.mono_l k
  · intro y0 y1 y2 y3
    unfold impl_txSums.l0
    repeat' with_reducible first | exact ih0 _ _ _ _ | exact impl_txSum.mono _ _ _ _ | exact LeO.refl _ | exact LeO.none _ | refine LeO.ite ?_ ?_ | refine LeO.bind ?_ (fun _ => ?_)
theorem impl_txSums.mono : ∀ a0 a1 a2 a3 a4 k, LeO (impl_txSums.f k a0 a1 a2 a3 a4) (impl_txSums.f (k + 1) a0 a1 a2 a3 a4) := by
 intro a0 a1 a2 a3 a4 k
 have ih0 := impl_txSums.mono_l k
 unfold impl_txSums.f
 repeat' with_reducible first | exact ih0 _ _ _ _ | exact impl_txSum.mono _ _ _ _ | exact LeO.refl _ | exact LeO.none _ | refine LeO.ite ?_ ?_ | refine LeO.bind ?_ (fun _ => ?_)
theorem impl_txSums.calls (k : Nat) (a0_0 : Int) (a0_1 : Int) (a0_2 : Int) (a0_3 : Int) (A0_4 : Option Addr) (c0_4 : Nat) (l0_4 : List (S54)) (r : List Int) (w : World) (hr0_4 : Kd.C k54 w A0_4 l0_4.length l0_4) (hc0_4 : l0_4.length ≤ c0_4) (h : impl_txSums.f k a0_0 a0_1 a0_2 a0_3 l0_4 = some r) :
 Calls Try.prog 34 #[.agg #[.int .i64 a0_0, .int .i64 a0_1, .int .i64 a0_2, .int .i64 a0_3, .slice A0_4 l0_4.length c0_4]] w fun e w' => ∃ v0_ : Value, e = .returned (v0_) ∧ Kd.R (Kd.int .i64) 2 w' w.heap.size (fun _ => True) v0_ r ∧ Below w.heap.size w w' := by
 have hu31 := Try.underlying31
 have hu54 := Try.underlying54
 have HR0_4 := am hr0_4; have HC0_4 := am hc0_4; clear hr0_4 hc0_4
 have HB := am (Below.refl w.heap.size w)
 have H : (impl_txSums.l0 k (([] : List Int)) l0_4 (l0_4.length : Int) 0) = some r := h
 clear h
 obtain ⟨y567, hy567⟩ : ∃ y_ : List Int, y_ = (([] : List Int)) := ⟨_, rfl⟩
 replace H : (impl_txSums.l0 k y567 l0_4 (l0_4.length : Int) 0) = some r := by first | (rw [hy567]; with_reducible exact H) | (have H2_ := (Option.bind_some _ _).symm.trans H; rw [hy567]; with_reducible exact H2_) | (have H2_ := (Option.bind_some _ _).symm.trans H; with_reducible exact H2_) | with_reducible exact H | (rw [hy567]; exact H) | exact H
 have Ny567 := am hy567; clear hy567
 have H' := am H
 clear H
 go_enter Try.func34, Try.ntmps34
 go_wp2_with (first | ((with_reducible refine gate_dst (N := 1) rfl ?_); refine box_event ?hg (N := 1) ?hd (cs := #[.int .i64 a0_0, .int .i64 a0_1, .int .i64 a0_2, .int .i64 a0_3, .slice A0_4 l0_4.length c0_4]) (t := 31) ?hr ?_; (case hd => rfl); (case hg => rfl); (case hr => first | (go_simp; done) | (go_simp; rfl)); intro gb566 hg w2 hbox hb; have n_ := t4 (bz_ pB hb) (hbox) ((by rw [hg]; exact (bs_ pB) : w.heap.size ≤ gb566)) ((by rw [hg]; exact (bs_ pB) : w.heap.size ≤ gb566)); clear HB; obtain ⟨HB, BK566, GW566, GE566⟩ := n_; clear hb hbox hg) | ((with_reducible refine gate_dst (N := 6) rfl ?_); refine Kd.R_lit (Kd.int .i64) _ 2 ?hg (N := 6) ?hd (xs := ([] : List Int)) (inner := []) (ok := fun _ => True) (okp := fun _ => True) ?hr ?hp (fun _ hk => hk) trivial (Below.refl _ _) (Nat.le_refl _) (by simp) ?_; (case hd => rfl); (case hg => rfl); (case hr => first | (go_simp; done) | (go_simp; rfl)); (case hp => exact (Reps.none _ _)); intro v568 w3 ho4 hb hg_ hnew_; clear hg_ hnew_; (first | rw [← Ny567.out] at ho4 | (simp only [Int.reduceToNat] at ho4; rw [← Ny567.out] at ho4)); have n_ := t3 (rL ho4 (bs_ pB)) (blk_below (g := gb566) (o := .cells #[.int .i64 a0_0, .int .i64 a0_1, .int .i64 a0_2, .int .i64 a0_3, .slice A0_4 l0_4.length c0_4] 31 (0, 0)) (pK BK566) hb) (bz_ pB hb); clear BK566 HB; obtain ⟨HO569, BK566, HB⟩ := n_; clear hb ho4; have hcz5_0 : w3.cell? ⟨gb566, 0, none⟩ = some (.int .i64 a0_0) := (blk_cell BK566.out 0).trans rfl; have hcz5_1 : w3.cell? ⟨gb566, 1, none⟩ = some (.int .i64 a0_1) := (blk_cell BK566.out 1).trans rfl; have hcz5_2 : w3.cell? ⟨gb566, 2, none⟩ = some (.int .i64 a0_2) := (blk_cell BK566.out 2).trans rfl; have hcz5_3 : w3.cell? ⟨gb566, 3, none⟩ = some (.int .i64 a0_3) := (blk_cell BK566.out 3).trans rfl; have hcz5_4 : w3.cell? ⟨gb566, 4, none⟩ = some (.slice A0_4 l0_4.length c0_4) := (blk_cell BK566.out 4).trans rfl; have hfz5_0 := blk_frozen BK566.out 0; have hfz5_1 := blk_frozen BK566.out 1; have hfz5_2 := blk_frozen BK566.out 2; have hfz5_3 := blk_frozen BK566.out 3; have hfz5_4 := blk_frozen BK566.out 4))
 go_loopg [3, 10] k (fun kq v3 v10 w' => ∃ (x3_1 : List Int) (x10_1 : Int), v10 = .int .i64 x10_1 ∧ Aside0 (impl_txSums.l0 kq x3_1 l0_4 (l0_4.length : Int) x10_1 = some r) ∧ Aside0 (kq ≤ k) ∧ Aside0 (Kd.R (Kd.int .i64) 2 w' w.heap.size (fun _ => True) v3 x3_1) ∧ Aside0 (w'.heap[gb566]? = some (.cells #[.int .i64 a0_0, .int .i64 a0_1, .int .i64 a0_2, .int .i64 a0_3, (.slice A0_4 l0_4.length c0_4)] 31 (0, 0))) ∧ Aside0 (Below w.heap.size w w'))
 case atStart => exact ⟨(y567), (0), pF, H', ⟨Nat.le_refl _⟩, ⟨(pR HO569)⟩, ⟨(pK BK566)⟩, ⟨pB⟩⟩
 case round =>
  clear H'
  (try clear hcz5_0); (try clear hcz5_1); (try clear hcz5_2); (try clear hcz5_3); (try clear hcz5_4); (try clear hfz5_0); (try clear hfz5_1); (try clear hfz5_2); (try clear hfz5_3); (try clear hfz5_4)
  obtain ⟨x3_1, x10_1, rfl, HA, HK1, HO_3, BK566, HB⟩ := hrel
  cases gk with
  | zero => exact absurd HA.out (by simp [impl_txSums.l0])
  | succ k1 =>
   have H := HA.out
   clear HA
   simp only [impl_txSums.l0] at H
   by_cases c6 : x10_1 < (l0_4.length : Int)
   · rw [if_pos c6] at H
     have c6b0 : decide (x10_1 < (l0_4.length : Int)) = true := dt c6
     clear c6
     by_cases c7 : 0 ≤ x10_1
     · rw [if_pos c7] at H
       have c7b0 : decide (0 ≤ x10_1) = true := dt c7
       clear c7
       by_cases c8 : x10_1 < (l0_4.length : Int)
       · rw [if_pos c8] at H
         have c8b0 : decide (x10_1 < (l0_4.length : Int)) = true := dt c8
         clear c8
         obtain ⟨t572, A90, H⟩ := bO H
         replace H : (if x3_1.length < 17592186044416 then (impl_txSums.l0 k1 (x3_1 ++ [t572]) l0_4 (l0_4.length : Int) (wrap64 (x10_1 + 1))) else (none)) = some r := H
         have A9 := am A90; clear A90
         by_cases c10 : x3_1.length < 17592186044416
         · rw [if_pos c10] at H
           have LMc10 := am c10; clear c10
           obtain ⟨y573, hy573⟩ : ∃ y_ : List Int, y_ = (x3_1 ++ [t572]) := ⟨_, rfl⟩
           replace H : (impl_txSums.l0 k1 y573 l0_4 (l0_4.length : Int) (wrap64 (x10_1 + 1))) = some r := by first | (rw [hy573]; with_reducible exact H) | (have H2_ := (Option.bind_some _ _).symm.trans H; rw [hy573]; with_reducible exact H2_) | (have H2_ := (Option.bind_some _ _).symm.trans H; with_reducible exact H2_) | with_reducible exact H | (rw [hy573]; exact H) | exact H
           have Ny573 := am hy573; clear hy573
           have H' := am H
           clear H
           have p570 : 0 ≤ (x10_1 : Int) := pD
           have q570 : x10_1 < (l0_4.length : Int) := pD
           obtain ⟨ad570, A570_1, c570_1, A570_2, c570_2, e570, hx570_0, hx570_1, hx570_2, hl570_1, hi570_1, hl570_2, hi570_2⟩ := at_T54 HR0_4.out x10_1 p570 q570
           cases e570; replace hx570_0 := cb HB hx570_0; replace hx570_1 := cb HB hx570_1; replace hx570_2 := cb HB hx570_2; have HR570_1 := am hi570_1; have HC570_1 := am hl570_1; clear hi570_1 hl570_1; have HR570_2 := am hi570_2; have HC570_2 := am hl570_2; clear hi570_2 hl570_2; replace p570 := eq_true p570; replace q570 := eq_true q570
           go_wp2_with (first | ((with_reducible refine gate_dst (N := 5) rfl ?_); refine box_event ?hg (N := 5) ?hd (cs := #[.int .i64 0, .slice none 0 0, .slice none 0 0]) (t := 54) ?hr ?_; (case hd => rfl); (case hg => rfl); (case hr => first | (go_simp; done) | (go_simp; rfl)); intro gb571 hg w11 hbox hb; have n_ := t8 (Kd.R_below (pR HO_3) hb) (blk_below (g := gb566) (o := .cells #[.int .i64 a0_0, .int .i64 a0_1, .int .i64 a0_2, .int .i64 a0_3, .slice (some ad570) l0_4.length c0_4] 31 (0, 0)) (pK BK566) hb) (bz_ pB hb) (hbox) ((by rw [hg]; exact (bs_ pB) : w.heap.size ≤ gb571)) ((by rw [hg]; exact (bs_ pB) : w.heap.size ≤ gb571)) ((by rw [hg]; exact Nat.ne_of_lt (blk_lt (g := gb566) (o := .cells #[.int .i64 a0_0, .int .i64 a0_1, .int .i64 a0_2, .int .i64 a0_3, .slice (some ad570) l0_4.length c0_4] 31 (0, 0)) (pK BK566)) : gb566 ≠ gb571)) ((by rw [hg]; exact Nat.ne_of_gt (blk_lt (g := gb566) (o := .cells #[.int .i64 a0_0, .int .i64 a0_1, .int .i64 a0_2, .int .i64 a0_3, .slice (some ad570) l0_4.length c0_4] 31 (0, 0)) (pK BK566)) : gb571 ≠ gb566)); clear HO_3 BK566 HB; obtain ⟨HO_3, BK566, HB, BK571, GW571, GE571, NB566_571, NB571_566⟩ := n_; clear hb hbox hg; have hnb12 := NB571_566.out; have hnc12 := NB566_571.out; have hcz13_0 : w11.cell? ⟨gb571, 0, none⟩ = some (.int .i64 0) := (blk_cell BK571.out 0).trans rfl; have hcz13_1 : w11.cell? ⟨gb571, 1, none⟩ = some (.slice none 0 0) := (blk_cell BK571.out 1).trans rfl; have hcz13_2 : w11.cell? ⟨gb571, 2, none⟩ = some (.slice none 0 0) := (blk_cell BK571.out 2).trans rfl; have hfz13_0 := blk_frozen BK571.out 0; have hfz13_1 := blk_frozen BK571.out 1; have hfz13_2 := blk_frozen BK571.out 2) | ((with_reducible refine gC (f := 54) rfl ?_); refine goesL_ (some 16) rfl rfl Try.func54 (by kernel_rfl) rfl #[.agg #[.int .i64 ((rd_T54 l0_4 x10_1).f0), .slice A570_1 ((rd_T54 l0_4 x10_1).f1).length c570_1, .slice A570_2 ((rd_T54 l0_4 x10_1).f2).length c570_2]] rfl pA ?_; (with_reducible refine (impl_txSum.calls k1 ((rd_T54 l0_4 x10_1).f0) _ _ ((rd_T54 l0_4 x10_1).f1) _ _ ((rd_T54 l0_4 x10_1).f2) t572 _ ?side1 ?side2 ?side3 ?side4 A9.out).mono ?_); (case side1 => exact Kd.C_below HR570_1.out pB); (case side2 => exact HC570_1.out); (case side3 => exact Kd.C_below HR570_2.out pB); (case side4 => exact HC570_2.out); rintro e w14 ⟨rfl, hb⟩; refine ⟨_, rfl, ?_⟩; have n_ := t4 (Kd.R_below (pT (Kd.R_mono (Kd.R_far (p := ⟨gb571, 2, none⟩) (Kd.R_far (p := ⟨gb571, 1, none⟩) (Kd.R_far (p := ⟨gb571, 0, none⟩) (Kd.R_types HO_3.out BK571.out (by decide)) (fun _ hk => hk.2) (.int .i64 ((rd_T54 l0_4 x10_1).f0))) (fun _ hk => hk.2) (.slice A570_1 ((rd_T54 l0_4 x10_1).f1).length c570_1)) (fun _ hk => hk.2) (.slice A570_2 ((rd_T54 l0_4 x10_1).f2).length c570_2)) (fun _ h_ => h_.1))) hb) (blk_below (g := gb566) (o := .cells #[.int .i64 a0_0, .int .i64 a0_1, .int .i64 a0_2, .int .i64 a0_3, .slice (some ad570) l0_4.length c0_4] 31 (0, 0)) (by (with_reducible repeat (first | refine blk_drewN ?_ _ | refine blk_drew ?_ | refine blk_alloc ?_ _)); refine blk_far ?_ NB566_571.out _; (with_reducible repeat (first | refine blk_drewN ?_ _ | refine blk_drew ?_ | refine blk_alloc ?_ _)); refine blk_far ?_ NB566_571.out _; (with_reducible repeat (first | refine blk_drewN ?_ _ | refine blk_drew ?_ | refine blk_alloc ?_ _)); refine blk_far ?_ NB566_571.out _; (with_reducible repeat (first | refine blk_drewN ?_ _ | refine blk_drew ?_ | refine blk_alloc ?_ _)); exact BK566.out) hb) (blk_below (g := gb571) (o := .cells #[.int .i64 ((rd_T54 l0_4 x10_1).f0), .slice A570_1 ((rd_T54 l0_4 x10_1).f1).length c570_1, .slice A570_2 ((rd_T54 l0_4 x10_1).f2).length c570_2] 54 (0, 0)) (by (with_reducible repeat (first | refine blk_drewN ?_ _ | refine blk_drew ?_ | refine blk_alloc ?_ _)); refine blk_put (cs := #[.int .i64 ((rd_T54 l0_4 x10_1).f0), .slice A570_1 ((rd_T54 l0_4 x10_1).f1).length c570_1, .slice none 0 0]) ?_ 2 _ rfl; (with_reducible repeat (first | refine blk_drewN ?_ _ | refine blk_drew ?_ | refine blk_alloc ?_ _)); refine blk_put (cs := #[.int .i64 ((rd_T54 l0_4 x10_1).f0), .slice none 0 0, .slice none 0 0]) ?_ 1 _ rfl; (with_reducible repeat (first | refine blk_drewN ?_ _ | refine blk_drew ?_ | refine blk_alloc ?_ _)); refine blk_put (cs := #[.int .i64 0, .slice none 0 0, .slice none 0 0]) ?_ 0 _ rfl; (with_reducible repeat (first | refine blk_drewN ?_ _ | refine blk_drew ?_ | refine blk_alloc ?_ _)); exact BK571.out) hb) (bz_ pB hb); clear HO_3 BK566 BK571 HB; obtain ⟨HO_3, BK566, BK571, HB⟩ := n_; (try clear hb); (try clear hk)) | ((with_reducible refine gB (b := .append) (xs := #[.tmp 14, .tmp 17]) rfl ?_); at_builtin; refine Kd.R_append (Kd.int .i64) (w0 := w) w.heap.size rfl (.tmp 14) (.tmp 17) 57 2 (.int .i64 0) 8 rfl Try.underlying57 info2 rfl (by decide) (by omega) u3 x3_1 t572 [.int .i64 t572] (fun _ => True) (fun _ => False) rfl rfl ?aP (fun _ hk => hk.elim) ?aF ?aO ?aB ?aS ?aL ?_; (case aP => exact rfl); (case aB => exact pB); (case aF => exact (fun _ _ => trivial)); (case aO => exact (pR HO_3)); (case aS => exact (bs_ pB)); (case aL => have := LMc10.out; omega); intro v574 w15 ho hb hg hat; rw [← Ny573.out] at ho; have n_ := t4 (blk_grown (g := gb566) (o := .cells #[.int .i64 a0_0, .int .i64 a0_1, .int .i64 a0_2, .int .i64 a0_3, .slice (some ad570) l0_4.length c0_4] 31 (0, 0)) (pK BK566) hg (Kd.R_ne HO_3.out BK566.out (by decide))) (blk_grown (g := gb571) (o := .cells #[.int .i64 ((rd_T54 l0_4 x10_1).f0), .slice A570_1 ((rd_T54 l0_4 x10_1).f1).length c570_1, .slice A570_2 ((rd_T54 l0_4 x10_1).f2).length c570_2] 54 (0, 0)) (pK BK571) hg (Kd.R_ne HO_3.out BK571.out (by decide))) (hb) (ho); clear BK566 BK571 HB HO_3; obtain ⟨BK566, BK571, HB, HO575⟩ := n_; clear ho hb hg hat))
           go_roundg k1
           case measure => have := HK1.out; omega
           case rel => exact ⟨(y573), (wrap64 (x10_1 + 1)), pF, H', ⟨by have := HK1.out; omega⟩, ⟨(pR HO575)⟩, ⟨(pK BK566)⟩, ⟨pB⟩⟩
         · rw [if_neg c10] at H
           exact absurd H (by simp)
       · rw [if_neg c8] at H
         exact absurd H (by simp)
     · rw [if_neg c7] at H
       exact absurd H (by simp)
   · rw [if_neg c6] at H
     have c6b0 : decide (x10_1 < (l0_4.length : Int)) = false := decide_eq_false c6
     clear c6
     obtain rfl := sj H
     go_wp2
     go_ret
     exact ⟨_, pE, (pR HO_3), pB⟩
end Go.Proofs.Ytjmdfghljlmfmaa.QFnExactHeaderSum
