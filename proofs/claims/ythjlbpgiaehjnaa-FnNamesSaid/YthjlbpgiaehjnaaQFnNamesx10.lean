-- written by this session's program (wip/tools/myprint.py)
import Derived.Test.YthjlbpgiaehjnaaQFnNamesx0
import Derived.Test.YthjlbpgiaehjnaaQFnNamesx1
import Derived.Test.YthjlbpgiaehjnaaQFnNamesx7
import Derived.Test.YthjlbpgiaehjnaaQFnNamesx9
-- squeezed
namespace Go.Proofs.Ythjlbpgiaehjnaa.QFnNames
open Go.RowKit Go.Proofs.YthjlbpgiaehjnaaW.PrintWords Go.Proofs.YthjlbpgiaehjnaaW.PrintLast Go.Proofs.YthjlbpgiaehjnaaW.PrintMore
attribute [local go_sem] max2_int min2_int max_two min_two max_three min_three max_four min_four   -- for this text's walks alone
set_option linter.unusedVariables false
set_option linter.unusedSimpArgs false
set_option maxHeartbeats 8000000
set_option maxRecDepth 100000
def impl_txSum.l0 : Nat → List (S34) → Int → Int → Int → List (S34) → List (S86) → Option (Int)
 | 0, _, _, _, _, _, _ => none
 | k + 1, x12, x13, x14, x426000, x426001, x426002 => if x14 < x13 then (if 0 ≤ x14 then (if x14 < (x12.length : Int) then (if x426001.length < 3518437208883 then (impl_txSum.l0 k x12 x13 (wrap64 (x14 + 1)) x426000 (x426001 ++ [(⟨(rd_T34 x12 x14).f0, (rd_T34 x12 x14).f1, ([] : List Int)⟩ : S34)]) x426002) else (none)) else (none)) else (none)) else ((impl_packTx.f k x426000 x426001 x426002).bind fun t431 => ((impl_sumOf.f k t431).bind fun t434 => (some t434)))
def impl_txSum.f (k : Nat) (a0_0 : Int) (l0_1 : List (S34)) (l0_2 : List (S86)) : Option (Int) := impl_txSum.l0 k l0_1 (l0_1.length : Int) 0 a0_0 ([] : List (S34)) l0_2
theorem impl_txSum.mono_l : ∀ k, (∀ y0 y1 y2 y3 y4 y5, LeO (impl_txSum.l0 k y0 y1 y2 y3 y4 y5) (impl_txSum.l0 (k + 1) y0 y1 y2 y3 y4 y5))
 | 0 => fun _ _ _ _ _ _ r h => by simp [impl_txSum.l0] at h
 | k + 1 => by
  have ih0 := impl_txSum.mono_l k
  · intro y0 y1 y2 y3 y4 y5
    unfold impl_txSum.l0
    repeat' with_reducible first | exact ih0 _ _ _ _ _ _ | exact impl_packTx.mono _ _ _ _ | exact impl_sumOf.mono _ _ | exact LeO.refl _ | exact LeO.none _ | refine LeO.ite ?_ ?_ | refine LeO.bind ?_ (fun _ => ?_)
theorem impl_txSum.mono : ∀ a0 a1 a2 k, LeO (impl_txSum.f k a0 a1 a2) (impl_txSum.f (k + 1) a0 a1 a2) := by
 intro a0 a1 a2 k
 have ih0 := impl_txSum.mono_l k
 unfold impl_txSum.f
 repeat' with_reducible first | exact ih0 _ _ _ _ _ _ | exact impl_packTx.mono _ _ _ _ | exact impl_sumOf.mono _ _ | exact LeO.refl _ | exact LeO.none _ | refine LeO.ite ?_ ?_ | refine LeO.bind ?_ (fun _ => ?_)
theorem impl_txSum.calls (k : Nat) (a0_0 : Int) (A0_1 : Option Addr) (c0_1 : Nat) (l0_1 : List (S34)) (A0_2 : Option Addr) (c0_2 : Nat) (l0_2 : List (S86)) (r : Int) (w : World) (hr0_1 : Kd.C k34 w A0_1 l0_1.length l0_1) (hc0_1 : l0_1.length ≤ c0_1) (hr0_2 : Kd.C k86 w A0_2 l0_2.length l0_2) (hc0_2 : l0_2.length ≤ c0_2) (h : impl_txSum.f k a0_0 l0_1 l0_2 = some r) :
 Calls Try.prog 52 #[.agg #[.int .i64 a0_0, .slice A0_1 l0_1.length c0_1, .slice A0_2 l0_2.length c0_2]] w fun e w' => e = .returned (.int .i64 r) ∧ Below w.heap.size w w' := by
 have hu27 := Try.underlying27
 have hu34 := Try.underlying34
 have HR0_1 := am hr0_1; have HC0_1 := am hc0_1; clear hr0_1 hc0_1; have HR0_2 := am hr0_2; have HC0_2 := am hc0_2; clear hr0_2 hc0_2
 have HB := am (Below.refl w.heap.size w)
 have H : (impl_txSum.l0 k l0_1 (l0_1.length : Int) 0 a0_0 ([] : List (S34)) l0_2) = some r := h
 clear h
 have H' := am H
 clear H
 go_enter Try.func52, Try.ntmps52
 go_wp2_with (first | ((with_reducible refine gate_dst (N := 1) rfl ?_); refine box_event ?hg (N := 1) ?hd (cs := #[.int .i64 a0_0, .slice A0_1 l0_1.length c0_1, .slice A0_2 l0_2.length c0_2]) (t := 27) ?hr ?_; (case hd => rfl); (case hg => rfl); (case hr => first | (go_simp; done) | (go_simp; rfl)); intro gb424 hg w2 hbox hb; have n_ := t4 (bz_ pB hb) (hbox) ((by rw [hg]; exact (bs_ pB) : w.heap.size ≤ gb424)) ((by rw [hg]; exact (bs_ pB) : w.heap.size ≤ gb424)); clear HB; obtain ⟨HB, BK424, GW424, GE424⟩ := n_; clear hb hbox hg; have hcz3_0 : w2.cell? ⟨gb424, 0, none⟩ = some (.int .i64 a0_0) := (blk_cell BK424.out 0).trans rfl; have hcz3_1 : w2.cell? ⟨gb424, 1, none⟩ = some (.slice A0_1 l0_1.length c0_1) := (blk_cell BK424.out 1).trans rfl; have hcz3_2 : w2.cell? ⟨gb424, 2, none⟩ = some (.slice A0_2 l0_2.length c0_2) := (blk_cell BK424.out 2).trans rfl; have hfz3_0 := blk_frozen BK424.out 0; have hfz3_1 := blk_frozen BK424.out 1; have hfz3_2 := blk_frozen BK424.out 2) | ((with_reducible refine gate_dst (N := 3) rfl ?_); refine box_event ?hg (N := 3) ?hd (cs := #[.int .i64 0, .slice none 0 0, .slice none 0 0]) (t := 27) ?hr ?_; (case hd => rfl); (case hg => rfl); (case hr => first | (go_simp; done) | (go_simp; rfl)); intro gb425 hg w4 hbox hb; have n_ := t7 (blk_below (g := gb424) (o := .cells #[.int .i64 a0_0, .slice A0_1 l0_1.length c0_1, .slice A0_2 l0_2.length c0_2] 27 (0, 0)) (pK BK424) hb) (bz_ pB hb) (hbox) ((by rw [hg]; exact (bs_ pB) : w.heap.size ≤ gb425)) ((by rw [hg]; exact (bs_ pB) : w.heap.size ≤ gb425)) ((by rw [hg]; exact Nat.ne_of_lt (blk_lt (g := gb424) (o := .cells #[.int .i64 a0_0, .slice A0_1 l0_1.length c0_1, .slice A0_2 l0_2.length c0_2] 27 (0, 0)) (pK BK424)) : gb424 ≠ gb425)) ((by rw [hg]; exact Nat.ne_of_gt (blk_lt (g := gb424) (o := .cells #[.int .i64 a0_0, .slice A0_1 l0_1.length c0_1, .slice A0_2 l0_2.length c0_2] 27 (0, 0)) (pK BK424)) : gb425 ≠ gb424)); clear BK424 HB; obtain ⟨BK424, HB, BK425, GW425, GE425, NB424_425, NB425_424⟩ := n_; clear hb hbox hg; have hnb5 := NB425_424.out; have hnc5 := NB424_425.out; have hcz6_0 : w4.cell? ⟨gb425, 0, none⟩ = some (.int .i64 0) := (blk_cell BK425.out 0).trans rfl; have hcz6_1 : w4.cell? ⟨gb425, 1, none⟩ = some (.slice none 0 0) := (blk_cell BK425.out 1).trans rfl; have hcz6_2 : w4.cell? ⟨gb425, 2, none⟩ = some (.slice none 0 0) := (blk_cell BK425.out 2).trans rfl; have hfz6_0 := blk_frozen BK425.out 0; have hfz6_1 := blk_frozen BK425.out 1; have hfz6_2 := blk_frozen BK425.out 2; have hcz7_0 : w4.cell? ⟨gb424, 0, none⟩ = some (.int .i64 a0_0) := (blk_cell BK424.out 0).trans rfl; have hcz7_1 : w4.cell? ⟨gb424, 1, none⟩ = some (.slice A0_1 l0_1.length c0_1) := (blk_cell BK424.out 1).trans rfl; have hcz7_2 : w4.cell? ⟨gb424, 2, none⟩ = some (.slice A0_2 l0_2.length c0_2) := (blk_cell BK424.out 2).trans rfl; have hfz7_0 := blk_frozen BK424.out 0; have hfz7_1 := blk_frozen BK424.out 1; have hfz7_2 := blk_frozen BK424.out 2))
 go_loopg [14] k (fun kq v14 w' => ∃ (x14_1 : Int) (x426001_1 : List (S34)) (u426001 : Value), v14 = .int .i64 x14_1 ∧ Aside0 (impl_txSum.l0 kq l0_1 (l0_1.length : Int) x14_1 a0_0 x426001_1 l0_2 = some r) ∧ Aside0 (kq ≤ k) ∧ Aside0 (Kd.S k34 34 w' w.heap.size (fun _ => True) u426001 x426001_1) ∧ Aside0 (w'.heap[gb424]? = some (.cells #[.int .i64 a0_0, (.slice A0_1 l0_1.length c0_1), (.slice A0_2 l0_2.length c0_2)] 27 (0, 0))) ∧ Aside0 (w'.heap[gb425]? = some (.cells #[.int .i64 a0_0, u426001, (.slice A0_2 l0_2.length c0_2)] 27 (0, 0))) ∧ Aside0 (Below w.heap.size w w'))
 case atStart => exact ⟨(0), (([] : List (S34))), (.slice none 0 0), pF, H', ⟨Nat.le_refl _⟩, ⟨by first | exact Kd.S_nil _ _ _ _ _ | exact Kd.N_nil _ _ _ _ _ | exact Kd.V_nil _ _ _ _ _ | exact Kd.Q_nil _ _ _ _ _ | exact Kd.R_nil _ _ _ _ _⟩, ⟨by (with_reducible repeat (first | refine blk_drewN ?_ _ | refine blk_drew ?_ | refine blk_alloc ?_ _)); refine blk_far ?_ NB424_425.out _; (with_reducible repeat (first | refine blk_drewN ?_ _ | refine blk_drew ?_ | refine blk_alloc ?_ _)); refine blk_far ?_ NB424_425.out _; (with_reducible repeat (first | refine blk_drewN ?_ _ | refine blk_drew ?_ | refine blk_alloc ?_ _)); refine blk_far ?_ NB424_425.out _; (with_reducible repeat (first | refine blk_drewN ?_ _ | refine blk_drew ?_ | refine blk_alloc ?_ _)); exact BK424.out⟩, ⟨by (with_reducible repeat (first | refine blk_drewN ?_ _ | refine blk_drew ?_ | refine blk_alloc ?_ _)); refine blk_put (cs := #[.int .i64 a0_0, .slice none 0 0, .slice none 0 0]) ?_ 2 _ rfl; (with_reducible repeat (first | refine blk_drewN ?_ _ | refine blk_drew ?_ | refine blk_alloc ?_ _)); refine blk_put (cs := #[.int .i64 a0_0, .slice none 0 0, .slice none 0 0]) ?_ 1 _ rfl; (with_reducible repeat (first | refine blk_drewN ?_ _ | refine blk_drew ?_ | refine blk_alloc ?_ _)); refine blk_put (cs := #[.int .i64 0, .slice none 0 0, .slice none 0 0]) ?_ 0 _ rfl; (with_reducible repeat (first | refine blk_drewN ?_ _ | refine blk_drew ?_ | refine blk_alloc ?_ _)); exact BK425.out⟩, ⟨pB⟩⟩
 case round =>
  clear H'
  (try clear hcz3_0); (try clear hcz3_1); (try clear hcz3_2); (try clear hcz6_0); (try clear hcz6_1); (try clear hcz6_2); (try clear hcz7_0); (try clear hcz7_1); (try clear hcz7_2); (try clear hfz3_0); (try clear hfz3_1); (try clear hfz3_2); (try clear hfz6_0); (try clear hfz6_1); (try clear hfz6_2); (try clear hfz7_0); (try clear hfz7_1); (try clear hfz7_2)
  obtain ⟨x14_1, x426001_1, u426001, rfl, HA, HK1, HO_426001, BK424, BK425, HB⟩ := hrel
  cases gk with
  | zero => exact absurd HA.out (by simp [impl_txSum.l0])
  | succ k1 =>
   have H := HA.out
   clear HA
   simp only [impl_txSum.l0] at H
   by_cases c8 : x14_1 < (l0_1.length : Int)
   · rw [if_pos c8] at H
     have c8b0 : decide (x14_1 < (l0_1.length : Int)) = true := dt c8
     clear c8
     by_cases c9 : 0 ≤ x14_1
     · rw [if_pos c9] at H
       have c9b0 : decide (0 ≤ x14_1) = true := dt c9
       clear c9
       by_cases c10 : x14_1 < (l0_1.length : Int)
       · rw [if_pos c10] at H
         have c10b0 : decide (x14_1 < (l0_1.length : Int)) = true := dt c10
         clear c10
         by_cases c11 : x426001_1.length < 3518437208883
         · rw [if_pos c11] at H
           have LMc11 := am c11; clear c11
           obtain ⟨y428, hy428⟩ : ∃ y_ : List (S34), y_ = (x426001_1 ++ [(⟨(rd_T34 l0_1 x14_1).f0, (rd_T34 l0_1 x14_1).f1, ([] : List Int)⟩ : S34)]) := ⟨_, rfl⟩
           replace H : (impl_txSum.l0 k1 l0_1 (l0_1.length : Int) (wrap64 (x14_1 + 1)) a0_0 y428 l0_2) = some r := by first | (rw [hy428]; with_reducible exact H) | (have H2_ := (Option.bind_some _ _).symm.trans H; rw [hy428]; with_reducible exact H2_) | (have H2_ := (Option.bind_some _ _).symm.trans H; with_reducible exact H2_) | with_reducible exact H | (rw [hy428]; exact H) | exact H
           have Ny428 := am hy428; clear hy428
           have H' := am H
           clear H
           have p426 : 0 ≤ (x14_1 : Int) := pD
           have q426 : x14_1 < (l0_1.length : Int) := pD
           obtain ⟨ad426, A426_2, c426_2, e426, hx426_0, hx426_1, hx426_2, hl426_2, hi426_2⟩ := at_T34 HR0_1.out x14_1 p426 q426
           cases e426; replace hx426_0 := cb HB hx426_0; replace hx426_1 := cb HB hx426_1; replace hx426_2 := cb HB hx426_2; have HR426_2 := am hi426_2; have HC426_2 := am hl426_2; clear hi426_2 hl426_2; replace p426 := eq_true p426; replace q426 := eq_true q426
           go_wp2_with (first | ((with_reducible refine gate_dst (N := 5) rfl ?_); refine box_event ?hg (N := 5) ?hd (cs := #[.int .i64 0, .int .i64 0, .slice none 0 0]) (t := 34) ?hr ?_; (case hd => rfl); (case hg => rfl); (case hr => first | (go_simp; done) | (go_simp; rfl)); intro gb427 hg w12 hbox hb; have n_ := t11 (Kd.S_below (Kd.S_elderB (by (with_reducible repeat (first | apply Kd.S_alloc | apply Kd.S_drewN | apply Kd.S_drew)); exact HO_426001.out) gb427 (Nat.le_of_eq hg.symm)) hb) (blk_below (g := gb424) (o := .cells #[.int .i64 a0_0, .slice (some ad426) l0_1.length c0_1, .slice A0_2 l0_2.length c0_2] 27 (0, 0)) (pK BK424) hb) (blk_below (g := gb425) (o := .cells #[.int .i64 a0_0, u426001, .slice A0_2 l0_2.length c0_2] 27 (0, 0)) (pK BK425) hb) (bz_ pB hb) (hbox) ((by rw [hg]; exact (bs_ pB) : w.heap.size ≤ gb427)) ((by rw [hg]; exact (bs_ pB) : w.heap.size ≤ gb427)) ((by rw [hg]; exact Nat.ne_of_lt (blk_lt (g := gb424) (o := .cells #[.int .i64 a0_0, .slice (some ad426) l0_1.length c0_1, .slice A0_2 l0_2.length c0_2] 27 (0, 0)) (pK BK424)) : gb424 ≠ gb427)) ((by rw [hg]; exact Nat.ne_of_gt (blk_lt (g := gb424) (o := .cells #[.int .i64 a0_0, .slice (some ad426) l0_1.length c0_1, .slice A0_2 l0_2.length c0_2] 27 (0, 0)) (pK BK424)) : gb427 ≠ gb424)) ((by rw [hg]; exact Nat.ne_of_lt (blk_lt (g := gb425) (o := .cells #[.int .i64 a0_0, u426001, .slice A0_2 l0_2.length c0_2] 27 (0, 0)) (pK BK425)) : gb425 ≠ gb427)) ((by rw [hg]; exact Nat.ne_of_gt (blk_lt (g := gb425) (o := .cells #[.int .i64 a0_0, u426001, .slice A0_2 l0_2.length c0_2] 27 (0, 0)) (pK BK425)) : gb427 ≠ gb425)); clear HO_426001 BK424 BK425 HB; obtain ⟨HO_426001, BK424, BK425, HB, BK427, GW427, GE427, NB424_427, NB427_424, NB425_427, NB427_425⟩ := n_; clear hb hbox hg; have hnb13 := NB427_424.out; have hnc13 := NB424_427.out; have hnb14 := NB427_425.out; have hnc14 := NB425_427.out; have hcz15_0 : w12.cell? ⟨gb427, 0, none⟩ = some (.int .i64 0) := (blk_cell BK427.out 0).trans rfl; have hcz15_1 : w12.cell? ⟨gb427, 1, none⟩ = some (.int .i64 0) := (blk_cell BK427.out 1).trans rfl; have hcz15_2 : w12.cell? ⟨gb427, 2, none⟩ = some (.slice none 0 0) := (blk_cell BK427.out 2).trans rfl; have hfz15_0 := blk_frozen BK427.out 0; have hfz15_1 := blk_frozen BK427.out 1; have hfz15_2 := blk_frozen BK427.out 2; have hnb16 := NB425_424.out; have hnc16 := NB424_425.out; have hcz17_0 : w12.cell? ⟨gb425, 0, none⟩ = some (.int .i64 a0_0) := (blk_cell BK425.out 0).trans rfl; have hcz17_1 : w12.cell? ⟨gb425, 1, none⟩ = some (u426001) := (blk_cell BK425.out 1).trans rfl; have hcz17_2 : w12.cell? ⟨gb425, 2, none⟩ = some (.slice A0_2 l0_2.length c0_2) := (blk_cell BK425.out 2).trans rfl; have hfz17_0 := blk_frozen BK425.out 0; have hfz17_1 := blk_frozen BK425.out 1; have hfz17_2 := blk_frozen BK425.out 2) | ((with_reducible refine gB (b := .append) (xs := #[.tmp 19, .tmp 25]) rfl ?_); at_builtin; refine Kd.S_append k34 (w0 := w) w.heap.size rfl (.tmp 19) (.tmp 25) 24 34 (.agg #[(.int .i64 0), (.int .i64 0), (.slice none 0 0)]) 40 rfl Try.underlying24 info34 rfl (by decide) (by omega) u426001 x426001_1 (⟨(rd_T34 l0_1 x14_1).f0, (rd_T34 l0_1 x14_1).f1, ([] : List Int)⟩ : S34) [.int .i64 ((rd_T34 l0_1 x14_1).f0), .int .i64 ((rd_T34 l0_1 x14_1).f1), .slice none 0 0] (fun k_ => k_ ≠ gb427) (fun _ => False) rfl (by first | (go_simp; done) | (go_simp; rfl)) ?aP (fun k_ hk_ => hk_.elim) ?aF ?aO ?aB ?aS ?aL ?_; (case aP => exact k34_mkM _ _ _ (⟨(rd_T34 l0_1 x14_1).f0, (rd_T34 l0_1 x14_1).f1, ([] : List Int)⟩ : S34) (Kd.R_nil _ _ _ _ _)); (case aB => exact pB); (case aF => exact (fun k_ hk => Kd.freshB (g := gb427) (o := .cells #[.int .i64 ((rd_T34 l0_1 x14_1).f0), .int .i64 ((rd_T34 l0_1 x14_1).f1), .slice A426_2 ((rd_T34 l0_1 x14_1).f2).length c426_2] 34 (0, 0)) zd25 k_ hk)); (case aO => exact (by (with_reducible repeat (first | apply Kd.S_alloc | apply Kd.S_drewN | apply Kd.S_drew)); exact Kd.S_mono (Kd.S_far (p := ⟨gb427, 2, none⟩) (Kd.S_far (p := ⟨gb427, 1, none⟩) (Kd.S_far (p := ⟨gb427, 0, none⟩) (Kd.S_mono HO_426001.out (fun k_ hk => (⟨hk, hk.2⟩ : _ ∧ k_ ≠ gb427))) (fun _ hk => hk.2) (.int .i64 ((rd_T34 l0_1 x14_1).f0))) (fun _ hk => hk.2) (.int .i64 ((rd_T34 l0_1 x14_1).f1))) (fun _ hk => hk.2) (.slice A426_2 ((rd_T34 l0_1 x14_1).f2).length c426_2)) (fun k_ hk => ⟨hk.1.2, fun e_ => e_⟩))); (case aS => exact (bs_ pB)); (case aL => have := LMc11.out; omega); intro v429 w18 ho hb hg hat; rw [← Ny428.out] at ho; have n_ := t5 (blk_grown (g := gb424) (o := .cells #[.int .i64 a0_0, .slice (some ad426) l0_1.length c0_1, .slice A0_2 l0_2.length c0_2] 27 (0, 0)) (by (with_reducible repeat (first | refine blk_drewN ?_ _ | refine blk_drew ?_ | refine blk_alloc ?_ _)); refine blk_far ?_ NB424_427.out _; (with_reducible repeat (first | refine blk_drewN ?_ _ | refine blk_drew ?_ | refine blk_alloc ?_ _)); refine blk_far ?_ NB424_427.out _; (with_reducible repeat (first | refine blk_drewN ?_ _ | refine blk_drew ?_ | refine blk_alloc ?_ _)); refine blk_far ?_ NB424_427.out _; (with_reducible repeat (first | refine blk_drewN ?_ _ | refine blk_drew ?_ | refine blk_alloc ?_ _)); exact BK424.out) hg (Kd.S_ne HO_426001.out BK424.out (by decide))) (blk_grown (g := gb425) (o := .cells #[.int .i64 a0_0, u426001, .slice A0_2 l0_2.length c0_2] 27 (0, 0)) (by (with_reducible repeat (first | refine blk_drewN ?_ _ | refine blk_drew ?_ | refine blk_alloc ?_ _)); refine blk_far ?_ NB425_427.out _; (with_reducible repeat (first | refine blk_drewN ?_ _ | refine blk_drew ?_ | refine blk_alloc ?_ _)); refine blk_far ?_ NB425_427.out _; (with_reducible repeat (first | refine blk_drewN ?_ _ | refine blk_drew ?_ | refine blk_alloc ?_ _)); refine blk_far ?_ NB425_427.out _; (with_reducible repeat (first | refine blk_drewN ?_ _ | refine blk_drew ?_ | refine blk_alloc ?_ _)); exact BK425.out) hg (Kd.S_ne HO_426001.out BK425.out (by decide))) (blk_grown (g := gb427) (o := .cells #[.int .i64 ((rd_T34 l0_1 x14_1).f0), .int .i64 ((rd_T34 l0_1 x14_1).f1), .slice A426_2 ((rd_T34 l0_1 x14_1).f2).length c426_2] 34 (0, 0)) zd25 hg (Kd.S_away HO_426001.out (fun _ hk => hk.2))) (hb) (ho); clear BK424 BK425 BK427 HB HO_426001; obtain ⟨BK424, BK425, BK427, HB, HO430⟩ := n_; clear ho hb hg hat; obtain ⟨Ao19, co19, eo19⟩ := Kd.S_slice HO430.out; subst eo19; have hcz20_0 : w18.cell? ⟨gb425, 0, none⟩ = some (.int .i64 a0_0) := (blk_cell BK425.out 0).trans rfl; have hcz20_1 : w18.cell? ⟨gb425, 1, none⟩ = some (u426001) := (blk_cell BK425.out 1).trans rfl; have hcz20_2 : w18.cell? ⟨gb425, 2, none⟩ = some (.slice A0_2 l0_2.length c0_2) := (blk_cell BK425.out 2).trans rfl; have hfz20_0 := blk_frozen BK425.out 0; have hfz20_1 := blk_frozen BK425.out 1; have hfz20_2 := blk_frozen BK425.out 2))
           go_roundg k1
           case measure => have := HK1.out; omega
           case rel => exact ⟨(wrap64 (x14_1 + 1)), (y428), (.slice Ao19 y428.length co19), pF, H', ⟨by have := HK1.out; omega⟩, ⟨by (with_reducible repeat (first | apply Kd.S_alloc | apply Kd.S_drewN | apply Kd.S_drew)); exact Kd.S_mono (Kd.S_far (p := ⟨gb425, 1, none⟩) (Kd.S_types HO430.out BK425.out (by decide)) (fun _ hk => hk.2) (.slice Ao19 y428.length co19)) (fun _ hk => trivial)⟩, ⟨by (with_reducible repeat (first | refine blk_drewN ?_ _ | refine blk_drew ?_ | refine blk_alloc ?_ _)); refine blk_far ?_ NB424_425.out _; (with_reducible repeat (first | refine blk_drewN ?_ _ | refine blk_drew ?_ | refine blk_alloc ?_ _)); exact BK424.out⟩, ⟨by (with_reducible repeat (first | refine blk_drewN ?_ _ | refine blk_drew ?_ | refine blk_alloc ?_ _)); refine blk_put (cs := #[.int .i64 a0_0, u426001, .slice A0_2 l0_2.length c0_2]) ?_ 1 _ rfl; (with_reducible repeat (first | refine blk_drewN ?_ _ | refine blk_drew ?_ | refine blk_alloc ?_ _)); exact BK425.out⟩, ⟨pB⟩⟩
         · rw [if_neg c11] at H
           exact absurd H (by simp)
       · rw [if_neg c10] at H
         exact absurd H (by simp)
     · rw [if_neg c9] at H
       exact absurd H (by simp)
   · rw [if_neg c8] at H
     have c8b0 : decide (x14_1 < (l0_1.length : Int)) = false := decide_eq_false c8
     clear c8
     obtain ⟨t431, A210, H⟩ := bO H
     replace H : ((impl_sumOf.f k1 t431).bind fun t434 => (some t434)) = some r := H
     have A21 := am A210; clear A210
     obtain ⟨t434, A220, H⟩ := bO H
     replace H : (some t434) = some r := H
     have A22 := am A220; clear A220
     obtain rfl := sj H
     have hnb23 := NB425_424.out
     have hnc23 := NB424_425.out
     obtain ⟨hcz24_0, hcz24_1, hcz24_2, hfz24_0, hfz24_1, hfz24_2⟩ := bx3 BK425
     obtain ⟨Ao25, co25, eo25⟩ := Kd.S_slice HO_426001.out
     subst eo25
     go_wp2_with (first | ((with_reducible refine gC (f := 56) rfl ?_); refine goesL_ (some 30) rfl rfl Try.func56 (by kernel_rfl) rfl #[.agg #[.int .i64 a0_0, .slice Ao25 x426001_1.length co25, .slice A0_2 l0_2.length c0_2]] rfl pA ?_; (with_reducible refine (impl_packTx.calls k1 a0_0 _ _ x426001_1 _ _ l0_2 t431 _ ?side1 ?side2 ?side3 ?side4 A21.out).mono ?_); (case side1 => exact pC (Kd.S_reads' HO_426001.out).2.2); (case side2 => exact (Kd.S_reads' HO_426001.out).2.1); (case side3 => exact pC (Kd.C_below HR0_2.out HB.out)); (case side4 => exact HC0_2.out); rintro e w26 ⟨v432, rfl, ho0, hb⟩; refine ⟨_, rfl, ?_⟩; have n_ := t5 (Kd.S_below (by (with_reducible repeat (first | apply Kd.S_alloc | apply Kd.S_drewN | apply Kd.S_drew)); exact HO_426001.out) hb) (rL ho0 (bs_ pB)) (blk_below (g := gb424) (o := .cells #[.int .i64 a0_0, .slice A0_1 l0_1.length c0_1, .slice A0_2 l0_2.length c0_2] 27 (0, 0)) (pK BK424) hb) (blk_below (g := gb425) (o := .cells #[.int .i64 a0_0, .slice Ao25 x426001_1.length co25, .slice A0_2 l0_2.length c0_2] 27 (0, 0)) (pK BK425) hb) (bz_ pB hb); clear HO_426001 BK424 BK425 HB; obtain ⟨HO_426001, HO433, BK424, BK425, HB⟩ := n_; (try clear hb); (try clear ho0); obtain ⟨Ao27, co27, eo27⟩ := rS HO433.out; subst eo27) | ((with_reducible refine gC (f := 55) rfl ?_); refine goesL_ (some 31) rfl rfl Try.func55 (by kernel_rfl) rfl #[.slice Ao27 t431.length co27] rfl pA ?_; (with_reducible refine (impl_sumOf.calls k1 _ _ t431 t434 _ ?side1 ?side2 A22.out).mono ?_); (case side1 => exact pC (rr HO433.out).2.2); (case side2 => exact (rr HO433.out).2.1); rintro e w' ⟨rfl, ⟨nd, rfl⟩⟩; refine ⟨_, rfl, ?_⟩))
     go_ret
     exact ⟨pE, pB⟩
def impl_TxSum.f (k : Nat) (a0_0 : Int) (l0_1 : List (S34)) (l0_2 : List (S86)) : Option (Int × Int) := (impl_TxFault.f k a0_0 l0_1 l0_2).bind fun t437 => (if t437 = 0 then ((impl_txSum.f k a0_0 l0_1 l0_2).bind fun t438 => (some (0, t438))) else (some (t437, 0)))
theorem impl_TxSum.mono : ∀ a0 a1 a2 k, LeO (impl_TxSum.f k a0 a1 a2) (impl_TxSum.f (k + 1) a0 a1 a2) := by
 intro a0 a1 a2 k
 unfold impl_TxSum.f
 repeat' with_reducible first | exact impl_TxFault.mono _ _ _ _ | exact impl_txSum.mono _ _ _ _ | exact LeO.refl _ | exact LeO.none _ | refine LeO.ite ?_ ?_ | refine LeO.bind ?_ (fun _ => ?_)
theorem impl_TxSum.calls (k : Nat) (a0_0 : Int) (A0_1 : Option Addr) (c0_1 : Nat) (l0_1 : List (S34)) (A0_2 : Option Addr) (c0_2 : Nat) (l0_2 : List (S86)) (r1 : Int) (r2 : Int) (w : World) (hr0_1 : Kd.C k34 w A0_1 l0_1.length l0_1) (hc0_1 : l0_1.length ≤ c0_1) (hr0_2 : Kd.C k86 w A0_2 l0_2.length l0_2) (hc0_2 : l0_2.length ≤ c0_2) (h : impl_TxSum.f k a0_0 l0_1 l0_2 = some (r1, r2)) :
 Calls Try.prog 12 #[.agg #[.int .i64 a0_0, .slice A0_1 l0_1.length c0_1, .slice A0_2 l0_2.length c0_2]] w fun e w' => e = .returned (.agg #[.int .i64 r1, .int .i64 r2]) ∧ Below w.heap.size w w' := by
 have hu27 := Try.underlying27
 have hu30 := Try.underlying30
 have HR0_1 := am hr0_1; have HC0_1 := am hc0_1; clear hr0_1 hc0_1; have HR0_2 := am hr0_2; have HC0_2 := am hc0_2; clear hr0_2 hc0_2
 have HB := am (Below.refl w.heap.size w)
 have H : ((impl_TxFault.f k a0_0 l0_1 l0_2).bind fun t437 => (if t437 = 0 then ((impl_txSum.f k a0_0 l0_1 l0_2).bind fun t438 => (some (0, t438))) else (some (t437, 0)))) = some (r1, r2) := h
 clear h
 obtain ⟨t437, A20, H⟩ := bO H
 replace H : (if t437 = 0 then ((impl_txSum.f k a0_0 l0_1 l0_2).bind fun t438 => (some (0, t438))) else (some (t437, 0))) = some (r1, r2) := H
 have A2 := am A20; clear A20
 by_cases c3 : t437 = 0
 · rw [if_pos c3] at H
   have c3b0 : (t437 == 0) = true := beq_iff_eq.mpr c3
   have c3b1 : (t437 != 0) = false := bne_eq_false_iff_eq.mpr c3
   clear c3
   obtain ⟨t438, A40, H⟩ := bO H
   replace H : (some (0, t438)) = some (r1, r2) := H
   have A4 := am A40; clear A40
   simp only [Option.some.injEq, Prod.mk.injEq] at H
   obtain ⟨rfl, rfl⟩ := H
   go_enter Try.func12, Try.ntmps12
   go_wp2_with (first | ((with_reducible refine gate_dst (N := 1) rfl ?_); refine box_event ?hg (N := 1) ?hd (cs := #[.int .i64 a0_0, .slice A0_1 l0_1.length c0_1, .slice A0_2 l0_2.length c0_2]) (t := 27) ?hr ?_; (case hd => rfl); (case hg => rfl); (case hr => first | (go_simp; done) | (go_simp; rfl)); intro gb435 hg w5 hbox hb; have n_ := t4 (bz_ pB hb) (hbox) ((by rw [hg]; exact (bs_ pB) : w.heap.size ≤ gb435)) ((by rw [hg]; exact (bs_ pB) : w.heap.size ≤ gb435)); clear HB; obtain ⟨HB, BK435, GW435, GE435⟩ := n_; clear hb hbox hg) | ((with_reducible refine gate_dst (N := 2) rfl ?_); refine box_event ?hg (N := 2) ?hd (cs := #[.int .i64 0, .int .i64 0]) (t := 30) ?hr ?_; (case hd => rfl); (case hg => rfl); (case hr => first | (go_simp; done) | (go_simp; rfl)); intro gb436 hg w6 hbox hb; have n_ := t7 (blk_below (g := gb435) (o := .cells #[.int .i64 a0_0, .slice A0_1 l0_1.length c0_1, .slice A0_2 l0_2.length c0_2] 27 (0, 0)) (pK BK435) hb) (bz_ pB hb) (hbox) ((by rw [hg]; exact (bs_ pB) : w.heap.size ≤ gb436)) ((by rw [hg]; exact (bs_ pB) : w.heap.size ≤ gb436)) ((by rw [hg]; exact Nat.ne_of_lt (blk_lt (g := gb435) (o := .cells #[.int .i64 a0_0, .slice A0_1 l0_1.length c0_1, .slice A0_2 l0_2.length c0_2] 27 (0, 0)) (pK BK435)) : gb435 ≠ gb436)) ((by rw [hg]; exact Nat.ne_of_gt (blk_lt (g := gb435) (o := .cells #[.int .i64 a0_0, .slice A0_1 l0_1.length c0_1, .slice A0_2 l0_2.length c0_2] 27 (0, 0)) (pK BK435)) : gb436 ≠ gb435)); clear BK435 HB; obtain ⟨BK435, HB, BK436, GW436, GE436, NB435_436, NB436_435⟩ := n_; clear hb hbox hg; have hnb7 := NB435_436.out; have hnc7 := NB436_435.out; have hcz8_0 : w6.cell? ⟨gb435, 0, none⟩ = some (.int .i64 a0_0) := (blk_cell BK435.out 0).trans rfl; have hcz8_1 : w6.cell? ⟨gb435, 1, none⟩ = some (.slice A0_1 l0_1.length c0_1) := (blk_cell BK435.out 1).trans rfl; have hcz8_2 : w6.cell? ⟨gb435, 2, none⟩ = some (.slice A0_2 l0_2.length c0_2) := (blk_cell BK435.out 2).trans rfl; have hfz8_0 := blk_frozen BK435.out 0; have hfz8_1 := blk_frozen BK435.out 1; have hfz8_2 := blk_frozen BK435.out 2) | ((with_reducible refine gC (f := 16) rfl ?_); refine goesL_ (some 5) rfl rfl Try.func16 (by kernel_rfl) rfl #[.agg #[.int .i64 a0_0, .slice A0_1 l0_1.length c0_1, .slice A0_2 l0_2.length c0_2]] rfl pA ?_; (with_reducible refine (impl_TxFault.calls k a0_0 _ _ l0_1 _ _ l0_2 t437 _ ?side1 ?side2 ?side3 ?side4 A2.out).mono ?_); (case side1 => exact pC (Kd.C_below HR0_1.out HB.out)); (case side2 => exact HC0_1.out); (case side3 => exact pC (Kd.C_below HR0_2.out HB.out)); (case side4 => exact HC0_2.out); rintro e w9 ⟨rfl, hb⟩; refine ⟨_, rfl, ?_⟩; have n_ := t3 (blk_below (g := gb435) (o := .cells #[.int .i64 a0_0, .slice A0_1 l0_1.length c0_1, .slice A0_2 l0_2.length c0_2] 27 (0, 0)) (pK BK435) hb) (blk_below (g := gb436) (o := .cells #[.int .i64 0, .int .i64 0] 30 (0, 0)) (pK BK436) hb) (bz_ pB hb); clear BK435 BK436 HB; obtain ⟨BK435, BK436, HB⟩ := n_; (try clear hb); have hcz10_0 : w9.cell? ⟨gb435, 0, none⟩ = some (.int .i64 a0_0) := (blk_cell BK435.out 0).trans rfl; have hcz10_1 : w9.cell? ⟨gb435, 1, none⟩ = some (.slice A0_1 l0_1.length c0_1) := (blk_cell BK435.out 1).trans rfl; have hcz10_2 : w9.cell? ⟨gb435, 2, none⟩ = some (.slice A0_2 l0_2.length c0_2) := (blk_cell BK435.out 2).trans rfl; have hfz10_0 := blk_frozen BK435.out 0; have hfz10_1 := blk_frozen BK435.out 1; have hfz10_2 := blk_frozen BK435.out 2) | ((with_reducible refine gC (f := 52) rfl ?_); refine goesL_ (some 11) rfl rfl Try.func52 (by kernel_rfl) rfl #[.agg #[.int .i64 a0_0, .slice A0_1 l0_1.length c0_1, .slice A0_2 l0_2.length c0_2]] rfl pA ?_; (with_reducible refine (impl_txSum.calls k a0_0 _ _ l0_1 _ _ l0_2 t438 _ ?side1 ?side2 ?side3 ?side4 A4.out).mono ?_); (case side1 => exact pC (Kd.C_below HR0_1.out HB.out)); (case side2 => exact HC0_1.out); (case side3 => exact pC (Kd.C_below HR0_2.out HB.out)); (case side4 => exact HC0_2.out); rintro e w11 ⟨rfl, hb⟩; refine ⟨_, rfl, ?_⟩; have n_ := t3 (blk_below (g := gb435) (o := .cells #[.int .i64 a0_0, .slice A0_1 l0_1.length c0_1, .slice A0_2 l0_2.length c0_2] 27 (0, 0)) (pK BK435) hb) (blk_below (g := gb436) (o := .cells #[.int .i64 0, .int .i64 0] 30 (0, 0)) (pK BK436) hb) (bz_ pB hb); clear BK435 BK436 HB; obtain ⟨BK435, BK436, HB⟩ := n_; (try clear hb); have hcz12_0 : w11.cell? ⟨gb436, 0, none⟩ = some (.int .i64 0) := (blk_cell BK436.out 0).trans rfl; have hcz12_1 : w11.cell? ⟨gb436, 1, none⟩ = some (.int .i64 0) := (blk_cell BK436.out 1).trans rfl; have hfz12_0 := blk_frozen BK436.out 0; have hfz12_1 := blk_frozen BK436.out 1))
   refine bodyPost_ret (results_cell_row rfl _ _ gb436 30 #[.int .i64 0, .int .i64 t438] (0, 0) _ rfl (by (with_reducible repeat (first | refine blk_drewN ?_ _ | refine blk_drew ?_ | refine blk_alloc ?_ _)); refine blk_put (cs := #[.int .i64 0, .int .i64 0]) ?_ 1 _ rfl; (with_reducible repeat (first | refine blk_drewN ?_ _ | refine blk_drew ?_ | refine blk_alloc ?_ _)); refine blk_put (cs := #[.int .i64 0, .int .i64 0]) ?_ 0 _ rfl; (with_reducible repeat (first | refine blk_drewN ?_ _ | refine blk_drew ?_ | refine blk_alloc ?_ _)); exact BK436.out) Try.underlying30 rfl (by kernel_rfl)) rfl ?_
   exact ⟨pE, pB⟩
 · rw [if_neg c3] at H
   have c3b0 : (t437 == 0) = false := beq_eq_false_iff_ne.mpr c3
   have c3b1 : (t437 != 0) = true := bne_iff_ne.mpr c3
   simp only [Option.some.injEq, Prod.mk.injEq] at H
   obtain ⟨rfl, rfl⟩ := H
   go_enter Try.func12, Try.ntmps12
   go_wp2_with (first | ((with_reducible refine gate_dst (N := 1) rfl ?_); refine box_event ?hg (N := 1) ?hd (cs := #[.int .i64 a0_0, .slice A0_1 l0_1.length c0_1, .slice A0_2 l0_2.length c0_2]) (t := 27) ?hr ?_; (case hd => rfl); (case hg => rfl); (case hr => first | (go_simp; done) | (go_simp; rfl)); intro gb435 hg w13 hbox hb; have n_ := t4 (bz_ pB hb) (hbox) ((by rw [hg]; exact (bs_ pB) : w.heap.size ≤ gb435)) ((by rw [hg]; exact (bs_ pB) : w.heap.size ≤ gb435)); clear HB; obtain ⟨HB, BK435, GW435, GE435⟩ := n_; clear hb hbox hg) | ((with_reducible refine gate_dst (N := 2) rfl ?_); refine box_event ?hg (N := 2) ?hd (cs := #[.int .i64 0, .int .i64 0]) (t := 30) ?hr ?_; (case hd => rfl); (case hg => rfl); (case hr => first | (go_simp; done) | (go_simp; rfl)); intro gb436 hg w14 hbox hb; have n_ := t7 (blk_below (g := gb435) (o := .cells #[.int .i64 a0_0, .slice A0_1 l0_1.length c0_1, .slice A0_2 l0_2.length c0_2] 27 (0, 0)) (pK BK435) hb) (bz_ pB hb) (hbox) ((by rw [hg]; exact (bs_ pB) : w.heap.size ≤ gb436)) ((by rw [hg]; exact (bs_ pB) : w.heap.size ≤ gb436)) ((by rw [hg]; exact Nat.ne_of_lt (blk_lt (g := gb435) (o := .cells #[.int .i64 a0_0, .slice A0_1 l0_1.length c0_1, .slice A0_2 l0_2.length c0_2] 27 (0, 0)) (pK BK435)) : gb435 ≠ gb436)) ((by rw [hg]; exact Nat.ne_of_gt (blk_lt (g := gb435) (o := .cells #[.int .i64 a0_0, .slice A0_1 l0_1.length c0_1, .slice A0_2 l0_2.length c0_2] 27 (0, 0)) (pK BK435)) : gb436 ≠ gb435)); clear BK435 HB; obtain ⟨BK435, HB, BK436, GW436, GE436, NB435_436, NB436_435⟩ := n_; clear hb hbox hg; have hnb15 := NB435_436.out; have hnc15 := NB436_435.out; have hcz16_0 : w14.cell? ⟨gb435, 0, none⟩ = some (.int .i64 a0_0) := (blk_cell BK435.out 0).trans rfl; have hcz16_1 : w14.cell? ⟨gb435, 1, none⟩ = some (.slice A0_1 l0_1.length c0_1) := (blk_cell BK435.out 1).trans rfl; have hcz16_2 : w14.cell? ⟨gb435, 2, none⟩ = some (.slice A0_2 l0_2.length c0_2) := (blk_cell BK435.out 2).trans rfl; have hfz16_0 := blk_frozen BK435.out 0; have hfz16_1 := blk_frozen BK435.out 1; have hfz16_2 := blk_frozen BK435.out 2) | ((with_reducible refine gC (f := 16) rfl ?_); refine goesL_ (some 5) rfl rfl Try.func16 (by kernel_rfl) rfl #[.agg #[.int .i64 a0_0, .slice A0_1 l0_1.length c0_1, .slice A0_2 l0_2.length c0_2]] rfl pA ?_; (with_reducible refine (impl_TxFault.calls k a0_0 _ _ l0_1 _ _ l0_2 t437 _ ?side1 ?side2 ?side3 ?side4 A2.out).mono ?_); (case side1 => exact pC (Kd.C_below HR0_1.out HB.out)); (case side2 => exact HC0_1.out); (case side3 => exact pC (Kd.C_below HR0_2.out HB.out)); (case side4 => exact HC0_2.out); rintro e w17 ⟨rfl, hb⟩; refine ⟨_, rfl, ?_⟩; have n_ := t3 (blk_below (g := gb435) (o := .cells #[.int .i64 a0_0, .slice A0_1 l0_1.length c0_1, .slice A0_2 l0_2.length c0_2] 27 (0, 0)) (pK BK435) hb) (blk_below (g := gb436) (o := .cells #[.int .i64 0, .int .i64 0] 30 (0, 0)) (pK BK436) hb) (bz_ pB hb); clear BK435 BK436 HB; obtain ⟨BK435, BK436, HB⟩ := n_; (try clear hb); have hcz18_0 : w17.cell? ⟨gb436, 0, none⟩ = some (.int .i64 0) := (blk_cell BK436.out 0).trans rfl; have hcz18_1 : w17.cell? ⟨gb436, 1, none⟩ = some (.int .i64 0) := (blk_cell BK436.out 1).trans rfl; have hfz18_0 := blk_frozen BK436.out 0; have hfz18_1 := blk_frozen BK436.out 1))
   refine bodyPost_ret (results_cell_row rfl _ _ gb436 30 #[.int .i64 t437, .int .i64 0] (0, 0) _ rfl (by (with_reducible repeat (first | refine blk_drewN ?_ _ | refine blk_drew ?_ | refine blk_alloc ?_ _)); refine blk_put (cs := #[.int .i64 t437, .int .i64 0]) ?_ 1 _ rfl; (with_reducible repeat (first | refine blk_drewN ?_ _ | refine blk_drew ?_ | refine blk_alloc ?_ _)); refine blk_put (cs := #[.int .i64 0, .int .i64 0]) ?_ 0 _ rfl; (with_reducible repeat (first | refine blk_drewN ?_ _ | refine blk_drew ?_ | refine blk_alloc ?_ _)); exact BK436.out) Try.underlying30 rfl (by kernel_rfl)) rfl ?_
   exact ⟨pE, pB⟩
def spec_l1All.l0 : Nat → List Int → Int → Int → Int → Option (Bool)
 | 0, _, _, _, _ => none
 | k + 1, x0, x1, x2, x7 => if x7 < (x0.length : Int) then (if 0 ≤ x7 then ((spec_l1In.f (rd x0 x7) x1 x2).bind fun t440 => (if t440 = true then (spec_l1All.l0 k x0 x1 x2 (wrap64 (x7 + 1))) else (some false))) else (none)) else (some true)
def spec_l1All.f (k : Nat) (l0 : List Int) (a1 : Int) (a2 : Int) : Option (Bool) := spec_l1All.l0 k l0 a1 a2 0
theorem spec_l1All.mono_l : ∀ k, (∀ y0 y1 y2 y3, LeO (spec_l1All.l0 k y0 y1 y2 y3) (spec_l1All.l0 (k + 1) y0 y1 y2 y3))
 | 0 => fun _ _ _ _ r h => by simp [spec_l1All.l0] at h
 | k + 1 => by
  have ih0 := spec_l1All.mono_l k
  · intro y0 y1 y2 y3
    unfold spec_l1All.l0
    repeat' with_reducible first | exact ih0 _ _ _ _ | exact LeO.refl _ | exact LeO.none _ | refine LeO.ite ?_ ?_ | refine LeO.bind ?_ (fun _ => ?_)
theorem spec_l1All.mono : ∀ a0 a1 a2 k, LeO (spec_l1All.f k a0 a1 a2) (spec_l1All.f (k + 1) a0 a1 a2) := by
 intro a0 a1 a2 k
 have ih0 := spec_l1All.mono_l k
 unfold spec_l1All.f
 repeat' with_reducible first | exact ih0 _ _ _ _ | exact LeO.refl _ | exact LeO.none _ | refine LeO.ite ?_ ?_ | refine LeO.bind ?_ (fun _ => ?_)
theorem spec_l1All.calls (k : Nat) (A0 : Option Addr) (c0 : Nat) (l0 : List Int) (a1 : Int) (a2 : Int) (r : Bool) (w : World) (hr0 : Kd.C (Kd.int .i64) w A0 l0.length l0) (hc0 : l0.length ≤ c0) (h : spec_l1All.f k l0 a1 a2 = some r) :
 Calls Try.prog 137 #[.slice A0 l0.length c0, .int .i64 a1, .int .i64 a2] w fun e w' => e = .returned (.bool r) ∧ Drawn0 w w' := by
 have HR0 := am hr0; have HC0 := am hc0; clear hr0 hc0
 have H : (spec_l1All.l0 k l0 a1 a2 0) = some r := h
 clear h
 have H' := am H
 clear H
 go_enter Try.func137, Try.ntmps137
 go_wp2
 go_loopg [7] k (fun kq v7 w' => ∃ (x7_1 : Int), v7 = .int .i64 x7_1 ∧ Aside0 (spec_l1All.l0 kq l0 a1 a2 x7_1 = some r) ∧ Aside0 (kq ≤ k) ∧ Drawn0 w w')
 case atStart => exact ⟨(0), pF, H', ⟨Nat.le_refl _⟩, pW⟩
 case round =>
  clear H'
  obtain ⟨x7_1, rfl, HA, HK1, ⟨m1, rfl⟩⟩ := hrel
  cases gk with
  | zero => exact absurd HA.out (by simp [spec_l1All.l0])
  | succ k1 =>
   have H := HA.out
   clear HA
   simp only [spec_l1All.l0] at H
   by_cases c4 : x7_1 < (l0.length : Int)
   · rw [if_pos c4] at H
     have c4b0 : decide (x7_1 < (l0.length : Int)) = true := dt c4
     clear c4
     by_cases c5 : 0 ≤ x7_1
     · rw [if_pos c5] at H
       have c5b0 : decide (0 ≤ x7_1) = true := dt c5
       clear c5
       obtain ⟨t440, A60, H⟩ := bO H
       replace H : (if t440 = true then (spec_l1All.l0 k1 l0 a1 a2 (wrap64 (x7_1 + 1))) else (some false)) = some r := H
       have A6 := am A60; clear A60
       by_cases c7 : t440 = true
       · subst c7
         have H1 : (spec_l1All.l0 k1 l0 a1 a2 (wrap64 (x7_1 + 1))) = some r := by rw [if_pos rfl] at H; exact H
         clear H; have H := H1; clear H1
         have H' := am H
         clear H
         have p439 : 0 ≤ (x7_1 : Int) := pD
         have q439 : x7_1 < (l0.length : Int) := pD
         obtain ⟨ad439, e439, hx439_0⟩ := Kd.at_int HR0.out x7_1 p439 q439
         cases e439; replace p439 := eq_true p439; replace q439 := eq_true q439
         go_wp2_with (first | ((with_reducible refine gC (f := 81) rfl ?_); refine goesL_ (some 20) rfl rfl Try.func81 (by kernel_rfl) rfl #[.int .i64 (rd l0 x7_1), .int .i64 a1, .int .i64 a2] rfl pA ?_; (with_reducible refine (spec_l1In.calls (rd l0 x7_1) a1 a2 true _ A6.out).mono ?_); rintro e w' ⟨rfl, ⟨nd, rfl⟩⟩; refine ⟨_, rfl, ?_⟩))
         go_roundg k1
         case measure => have := HK1.out; omega
         case rel => exact ⟨(wrap64 (x7_1 + 1)), pF, H', ⟨by have := HK1.out; omega⟩, pW⟩
       · replace c7 := Bool.eq_false_iff.mpr c7
         subst c7
         have H1 : (some false) = some r := by rw [if_neg (show ¬ (false = true) by decide)] at H; exact H
         clear H; have H := H1; clear H1
         obtain rfl := sj H
         have p439 : 0 ≤ (x7_1 : Int) := pD
         have q439 : x7_1 < (l0.length : Int) := pD
         obtain ⟨ad439, e439, hx439_0⟩ := Kd.at_int HR0.out x7_1 p439 q439
         cases e439; replace p439 := eq_true p439; replace q439 := eq_true q439
         go_wp2_with (first | ((with_reducible refine gC (f := 81) rfl ?_); refine goesL_ (some 20) rfl rfl Try.func81 (by kernel_rfl) rfl #[.int .i64 (rd l0 x7_1), .int .i64 a1, .int .i64 a2] rfl pA ?_; (with_reducible refine (spec_l1In.calls (rd l0 x7_1) a1 a2 false _ A6.out).mono ?_); rintro e w' ⟨rfl, ⟨nd, rfl⟩⟩; refine ⟨_, rfl, ?_⟩))
         go_ret
         exact ⟨by first | rfl | (simp; done) | (simp [*]; done), pW⟩
     · rw [if_neg c5] at H
       exact absurd H (by simp)
   · rw [if_neg c4] at H
     have c4b0 : decide (x7_1 < (l0.length : Int)) = false := decide_eq_false c4
     clear c4
     obtain rfl := sj H
     go_wp2
     go_ret
     exact ⟨by first | rfl | (simp; done) | (simp [*]; done), pW⟩
mutual
def spec_l3In.j0 : Nat → List (S34) → Int → Bool → Option (Int)
 | 0, _, _, _ => none
 | k + 1, x0, x1, x23 => if x23 = true then (some 3) else (if 0 ≤ x1 then (if x1 < (x0.length : Int) then (if (((rd_T34 x0 x1).f2).length : Int) > 8 then (some 2) else ((spec_l1All.f k ((rd_T34 x0 x1).f2) 0 9999).bind fun t448 => (if t448 = true then (spec_l3In.l0 k x0 x1 0) else (some 3)))) else (none)) else (none))
def spec_l3In.l0 : Nat → List (S34) → Int → Int → Option (Int)
 | 0, _, _, _ => none
 | k + 1, x0, x1, x6 => if x6 < x1 then (if 0 ≤ x6 then (if x6 < (x0.length : Int) then (if 0 ≤ x1 then (if x1 < (x0.length : Int) then (if ((rd_T34 x0 x6).f0) = ((rd_T34 x0 x1).f0) then (if ((rd_T34 x0 x6).f1) = ((rd_T34 x0 x1).f1) then (some 6) else (spec_l3In.l0 k x0 x1 (wrap64 (x6 + 1)))) else (spec_l3In.l0 k x0 x1 (wrap64 (x6 + 1)))) else (none)) else (none)) else (none)) else (none)) else (some 0)
end
def spec_l3In.f (k : Nat) (l0 : List (S34)) (a1 : Int) : Option (Int) := if 0 ≤ a1 then (if a1 < (l0.length : Int) then ((spec_l1In.f ((rd_T34 l0 a1).f0) 0 2147483646).bind fun t443 => (if t443 = true then ((spec_l1In.f ((rd_T34 l0 a1).f1) 0 3).bind fun t445 => (spec_l3In.j0 k l0 a1 (!t445))) else (spec_l3In.j0 k l0 a1 true))) else (none)) else (none)
theorem spec_l3In.mono_l : ∀ k, (∀ y0 y1 y2, LeO (spec_l3In.j0 k y0 y1 y2) (spec_l3In.j0 (k + 1) y0 y1 y2)) ∧ (∀ y0 y1 y2, LeO (spec_l3In.l0 k y0 y1 y2) (spec_l3In.l0 (k + 1) y0 y1 y2))
 | 0 => ⟨fun _ _ _ r h => by simp [spec_l3In.j0] at h, fun _ _ _ r h => by simp [spec_l3In.l0] at h⟩
 | k + 1 => by
  obtain ⟨ih0, ih1⟩ := spec_l3In.mono_l k
  refine ⟨?_, ?_⟩
  · intro y0 y1 y2
    unfold spec_l3In.j0
    repeat' with_reducible first | exact ih0 _ _ _ | exact ih1 _ _ _ | exact spec_l1All.mono _ _ _ _ | exact LeO.refl _ | exact LeO.none _ | refine LeO.ite ?_ ?_ | refine LeO.bind ?_ (fun _ => ?_)
  · intro y0 y1 y2
    unfold spec_l3In.l0
    repeat' with_reducible first | exact ih0 _ _ _ | exact ih1 _ _ _ | exact spec_l1All.mono _ _ _ _ | exact LeO.refl _ | exact LeO.none _ | refine LeO.ite ?_ ?_ | refine LeO.bind ?_ (fun _ => ?_)
theorem spec_l3In.mono : ∀ a0 a1 k, LeO (spec_l3In.f k a0 a1) (spec_l3In.f (k + 1) a0 a1) := by
 intro a0 a1 k
 obtain ⟨ih0, ih1⟩ := spec_l3In.mono_l k
 unfold spec_l3In.f
 repeat' with_reducible first | exact ih0 _ _ _ | exact ih1 _ _ _ | exact spec_l1All.mono _ _ _ _ | exact LeO.refl _ | exact LeO.none _ | refine LeO.ite ?_ ?_ | refine LeO.bind ?_ (fun _ => ?_)
theorem spec_l3In.calls (k : Nat) (A0 : Option Addr) (c0 : Nat) (l0 : List (S34)) (a1 : Int) (r : Int) (w : World) (hr0 : Kd.C k34 w A0 l0.length l0) (hc0 : l0.length ≤ c0) (h : spec_l3In.f k l0 a1 = some r) :
 Calls Try.prog 101 #[.slice A0 l0.length c0, .int .i64 a1] w fun e w' => e = .returned (.int .i64 r) ∧ Drawn0 w w' := by
 have hfd34_0 : ∀ (c0 c1 c2 : Value) (w : World), (Instr.field 34 (.agg #[c0, c1, c2]) 0).run Try.prog w = .ok c0 w := by intro c0 c1 c2 w; kernel_rfl
 have hfd34_1 : ∀ (c0 c1 c2 : Value) (w : World), (Instr.field 34 (.agg #[c0, c1, c2]) 1).run Try.prog w = .ok c1 w := by intro c0 c1 c2 w; kernel_rfl
 have hu34 := Try.underlying34
 have HR0 := am hr0; have HC0 := am hc0; clear hr0 hc0
 have H : (if 0 ≤ a1 then (if a1 < (l0.length : Int) then ((spec_l1In.f ((rd_T34 l0 a1).f0) 0 2147483646).bind fun t443 => (if t443 = true then ((spec_l1In.f ((rd_T34 l0 a1).f1) 0 3).bind fun t445 => (spec_l3In.j0 k l0 a1 (!t445))) else (spec_l3In.j0 k l0 a1 true))) else (none)) else (none)) = some r := h
 clear h
 by_cases c3 : 0 ≤ a1
 · rw [if_pos c3] at H
   have c3b0 : decide (0 ≤ a1) = true := dt c3
   clear c3
   by_cases c4 : a1 < (l0.length : Int)
   · rw [if_pos c4] at H
     have c4b0 : decide (a1 < (l0.length : Int)) = true := dt c4
     clear c4; have HC5 := am H; clear H
     have p441 : 0 ≤ (a1 : Int) := pD
     have q441 : a1 < (l0.length : Int) := pD
     obtain ⟨ad441, A441_2, c441_2, e441, hx441_0, hx441_1, hx441_2, hl441_2, hi441_2⟩ := at_T34 HR0.out a1 p441 q441
     cases e441; have HR441_2 := am hi441_2; have HC441_2 := am hl441_2; clear hi441_2 hl441_2; replace p441 := eq_true p441; replace q441 := eq_true q441
     go_enter Try.func101, Try.ntmps101
     go_upto_region 2 with (fail)
     repeat (go_quiet (fail); go_upto_region 2 with (fail))
     go_cut [23] (fun v23 wc => ∃ (kq : Nat) (x23_4 : Bool), v23 = .bool x23_4 ∧ Aside0 (spec_l3In.j0 kq l0 a1 x23_4 = some r) ∧ Aside0 (kq ≤ k) ∧ Drawn0 w wc)
     case first =>
      have H := HC5.out
      clear HC5
      obtain ⟨t443, A60, H⟩ := bO H
      replace H : (if t443 = true then ((spec_l1In.f ((rd_T34 l0 a1).f1) 0 3).bind fun t445 => (spec_l3In.j0 k l0 a1 (!t445))) else (spec_l3In.j0 k l0 a1 true)) = some r := H
      have A6 := am A60; clear A60
      by_cases c7 : t443 = true
      · subst c7
        have H1 : ((spec_l1In.f ((rd_T34 l0 a1).f1) 0 3).bind fun t445 => (spec_l3In.j0 k l0 a1 (!t445))) = some r := by rw [if_pos rfl] at H; exact H
        clear H; have H := H1; clear H1
        obtain ⟨t445, A80, H⟩ := bO H
        replace H : (spec_l3In.j0 k l0 a1 (!t445)) = some r := H
        have A8 := am A80; clear A80
        have H' := am H
        clear H
        have p442 : 0 ≤ (a1 : Int) := pD
        have q442 : a1 < (l0.length : Int) := pD
        obtain ⟨ad442, A442_2, c442_2, e442, hx442_0, hx442_1, hx442_2, hl442_2, hi442_2⟩ := at_T34 HR0.out a1 p442 q442
        obtain rfl : ad441 = ad442 := (by injection e442)
        have HR442_2 := am hi442_2; have HC442_2 := am hl442_2; clear hi442_2 hl442_2; replace p442 := eq_true p442; replace q442 := eq_true q442
        go_wp2_with (first | (go_at_call 81; (with_reducible refine (spec_l1In.calls ((rd_T34 l0 a1).f0) 0 2147483646 true _ A6.out).mono ?_); rintro e w' ⟨rfl, ⟨nd, rfl⟩⟩; (try first | exact ⟨rfl, _, World.drewN_drewN _ _ _⟩ | exact ⟨rfl, _, Eq.trans (World.drewN_drewN _ _ _) (congrArg (World.drewN _) (Nat.add_assoc _ _ _))⟩); have p444 : 0 ≤ (a1 : Int) := pD; have q444 : a1 < (l0.length : Int) := pD; obtain ⟨ad444, A444_2, c444_2, e444, hx444_0, hx444_1, hx444_2, hl444_2, hi444_2⟩ := at_T34 HR0.out a1 p444 q444; obtain rfl : ad441 = ad444 := (by injection e444); have HR444_2 := am hi444_2; have HC444_2 := am hl444_2; clear hi444_2 hl444_2; replace p444 := eq_true p444; replace q444 := eq_true q444; have ea_ := sj (hx442_2.symm.trans hx444_2); injection ea_ with ea_ en_ ec_; subst ea_; subst ec_; clear en_) | (go_at_call 81; (with_reducible refine (spec_l1In.calls ((rd_T34 l0 a1).f1) 0 3 t445 _ A8.out).mono ?_); rintro e w' ⟨rfl, ⟨nd, rfl⟩⟩; (try first | exact ⟨rfl, _, World.drewN_drewN _ _ _⟩ | exact ⟨rfl, _, Eq.trans (World.drewN_drewN _ _ _) (congrArg (World.drewN _) (Nat.add_assoc _ _ _))⟩)))
        repeat (go_quiet (first | (go_at_call 81; (with_reducible refine (spec_l1In.calls ((rd_T34 l0 a1).f0) 0 2147483646 true _ A6.out).mono ?_); rintro e w' ⟨rfl, ⟨nd, rfl⟩⟩; (try first | exact ⟨rfl, _, World.drewN_drewN _ _ _⟩ | exact ⟨rfl, _, Eq.trans (World.drewN_drewN _ _ _) (congrArg (World.drewN _) (Nat.add_assoc _ _ _))⟩); have p444 : 0 ≤ (a1 : Int) := pD; have q444 : a1 < (l0.length : Int) := pD; obtain ⟨ad444, A444_2, c444_2, e444, hx444_0, hx444_1, hx444_2, hl444_2, hi444_2⟩ := at_T34 HR0.out a1 p444 q444; obtain rfl : ad441 = ad444 := (by injection e444); have HR444_2 := am hi444_2; have HC444_2 := am hl444_2; clear hi444_2 hl444_2; replace p444 := eq_true p444; replace q444 := eq_true q444; have ea_ := sj (hx442_2.symm.trans hx444_2); injection ea_ with ea_ en_ ec_; subst ea_; subst ec_; clear en_) | (go_at_call 81; (with_reducible refine (spec_l1In.calls ((rd_T34 l0 a1).f1) 0 3 t445 _ A8.out).mono ?_); rintro e w' ⟨rfl, ⟨nd, rfl⟩⟩; (try first | exact ⟨rfl, _, World.drewN_drewN _ _ _⟩ | exact ⟨rfl, _, Eq.trans (World.drewN_drewN _ _ _) (congrArg (World.drewN _) (Nat.add_assoc _ _ _))⟩))); try go_wp2_with (first | (go_at_call 81; (with_reducible refine (spec_l1In.calls ((rd_T34 l0 a1).f0) 0 2147483646 true _ A6.out).mono ?_); rintro e w' ⟨rfl, ⟨nd, rfl⟩⟩; (try first | exact ⟨rfl, _, World.drewN_drewN _ _ _⟩ | exact ⟨rfl, _, Eq.trans (World.drewN_drewN _ _ _) (congrArg (World.drewN _) (Nat.add_assoc _ _ _))⟩); have p444 : 0 ≤ (a1 : Int) := pD; have q444 : a1 < (l0.length : Int) := pD; obtain ⟨ad444, A444_2, c444_2, e444, hx444_0, hx444_1, hx444_2, hl444_2, hi444_2⟩ := at_T34 HR0.out a1 p444 q444; obtain rfl : ad441 = ad444 := (by injection e444); have HR444_2 := am hi444_2; have HC444_2 := am hl444_2; clear hi444_2 hl444_2; replace p444 := eq_true p444; replace q444 := eq_true q444; have ea_ := sj (hx442_2.symm.trans hx444_2); injection ea_ with ea_ en_ ec_; subst ea_; subst ec_; clear en_) | (go_at_call 81; (with_reducible refine (spec_l1In.calls ((rd_T34 l0 a1).f1) 0 3 t445 _ A8.out).mono ?_); rintro e w' ⟨rfl, ⟨nd, rfl⟩⟩; (try first | exact ⟨rfl, _, World.drewN_drewN _ _ _⟩ | exact ⟨rfl, _, Eq.trans (World.drewN_drewN _ _ _) (congrArg (World.drewN _) (Nat.add_assoc _ _ _))⟩))))
        go_meet
        case rel => exact ⟨_, (!t445), pF, H', ⟨by first | omega | exact Nat.le_refl _⟩, pW⟩
      · replace c7 := Bool.eq_false_iff.mpr c7
        subst c7
        have H1 : (spec_l3In.j0 k l0 a1 true) = some r := by rw [if_neg (show ¬ (false = true) by decide)] at H; exact H
        clear H; have H := H1; clear H1
        have H' := am H
        clear H
        have p442 : 0 ≤ (a1 : Int) := pD
        have q442 : a1 < (l0.length : Int) := pD
        obtain ⟨ad442, A442_2, c442_2, e442, hx442_0, hx442_1, hx442_2, hl442_2, hi442_2⟩ := at_T34 HR0.out a1 p442 q442
        obtain rfl : ad441 = ad442 := (by injection e442)
        have HR442_2 := am hi442_2; have HC442_2 := am hl442_2; clear hi442_2 hl442_2; replace p442 := eq_true p442; replace q442 := eq_true q442
        go_wp2_with (first | (go_at_call 81; (with_reducible refine (spec_l1In.calls ((rd_T34 l0 a1).f0) 0 2147483646 false _ A6.out).mono ?_); rintro e w' ⟨rfl, ⟨nd, rfl⟩⟩; (try first | exact ⟨rfl, _, World.drewN_drewN _ _ _⟩ | exact ⟨rfl, _, Eq.trans (World.drewN_drewN _ _ _) (congrArg (World.drewN _) (Nat.add_assoc _ _ _))⟩)))
        repeat (go_quiet (first | (go_at_call 81; (with_reducible refine (spec_l1In.calls ((rd_T34 l0 a1).f0) 0 2147483646 false _ A6.out).mono ?_); rintro e w' ⟨rfl, ⟨nd, rfl⟩⟩; (try first | exact ⟨rfl, _, World.drewN_drewN _ _ _⟩ | exact ⟨rfl, _, Eq.trans (World.drewN_drewN _ _ _) (congrArg (World.drewN _) (Nat.add_assoc _ _ _))⟩))); try go_wp2_with (first | (go_at_call 81; (with_reducible refine (spec_l1In.calls ((rd_T34 l0 a1).f0) 0 2147483646 false _ A6.out).mono ?_); rintro e w' ⟨rfl, ⟨nd, rfl⟩⟩; (try first | exact ⟨rfl, _, World.drewN_drewN _ _ _⟩ | exact ⟨rfl, _, Eq.trans (World.drewN_drewN _ _ _) (congrArg (World.drewN _) (Nat.add_assoc _ _ _))⟩))))
        go_meet
        case rel => exact ⟨_, (true), pF, H', ⟨by first | omega | exact Nat.le_refl _⟩, pW⟩
     case rest =>
      clear HC5; (try clear c1); (try clear c3); (try clear c3b0); (try clear c4); (try clear c4b0); (try clear hx441_0); (try clear hx441_1); (try clear hx441_2); (try clear p441); (try clear q441)
      obtain ⟨kq, x23_4, rfl, HA, HJ4, ⟨mc4, rfl⟩⟩ := hcut
      cases kq with
      | zero => exact absurd HA.out (by simp [spec_l3In.j0])
      | succ kj4 =>
       have H := HA.out
       clear HA
       simp only [spec_l3In.j0] at H
       by_cases c9 : x23_4 = true
       · subst c9
         have H1 : (some 3) = some r := by rw [if_pos rfl] at H; exact H
         clear H; have H := H1; clear H1
         obtain rfl := sj H
         go_wp2
         repeat (go_quiet (fail); try go_wp2)
         go_ret
         exact ⟨by first | rfl | (simp; done) | (simp [*]; done), pW⟩
       · replace c9 := Bool.eq_false_iff.mpr c9
         subst c9
         have H1 : (if 0 ≤ a1 then (if a1 < (l0.length : Int) then (if (((rd_T34 l0 a1).f2).length : Int) > 8 then (some 2) else ((spec_l1All.f kj4 ((rd_T34 l0 a1).f2) 0 9999).bind fun t448 => (if t448 = true then (spec_l3In.l0 kj4 l0 a1 0) else (some 3)))) else (none)) else (none)) = some r := by rw [if_neg (show ¬ (false = true) by decide)] at H; exact H
         clear H; have H := H1; clear H1
         by_cases c10 : 0 ≤ a1
         · rw [if_pos c10] at H
           have c10b0 : decide (0 ≤ a1) = true := dt c10
           clear c10
           by_cases c11 : a1 < (l0.length : Int)
           · rw [if_pos c11] at H
             have c11b0 : decide (a1 < (l0.length : Int)) = true := dt c11
             clear c11
             by_cases c12 : (((rd_T34 l0 a1).f2).length : Int) > 8
             · rw [if_pos c12] at H
               have c12b0 : decide (8 < (((rd_T34 l0 a1).f2).length : Int)) = true := dt c12
               have c12b1 : decide (8 < ((rd_T34 l0 a1).f2).length) = true := dt (by omega)
               clear c12
               obtain rfl := sj H
               have p446 : 0 ≤ (a1 : Int) := pD
               have q446 : a1 < (l0.length : Int) := pD
               obtain ⟨ad446, A446_2, c446_2, e446, hx446_0, hx446_1, hx446_2, hl446_2, hi446_2⟩ := at_T34 HR0.out a1 p446 q446
               obtain rfl : ad441 = ad446 := (by injection e446)
               have HR446_2 := am hi446_2; have HC446_2 := am hl446_2; clear hi446_2 hl446_2; replace p446 := eq_true p446; replace q446 := eq_true q446
               go_wp2
               repeat (go_quiet (fail); try go_wp2)
               go_ret
               exact ⟨by first | rfl | (simp; done) | (simp [*]; done), pW⟩
             · rw [if_neg c12] at H
               have c12b0 : decide (8 < (((rd_T34 l0 a1).f2).length : Int)) = false := decide_eq_false c12
               have c12b1 : decide (8 < ((rd_T34 l0 a1).f2).length) = false := decide_eq_false (by omega)
               clear c12
               obtain ⟨t448, A130, H⟩ := bO H
               replace H : (if t448 = true then (spec_l3In.l0 kj4 l0 a1 0) else (some 3)) = some r := H
               have A13 := am A130; clear A130
               by_cases c14 : t448 = true
               · subst c14
                 have H1 : (spec_l3In.l0 kj4 l0 a1 0) = some r := by rw [if_pos rfl] at H; exact H
                 clear H; have H := H1; clear H1
                 have H' := am H
                 clear H
                 have p446 : 0 ≤ (a1 : Int) := pD
                 have q446 : a1 < (l0.length : Int) := pD
                 obtain ⟨ad446, A446_2, c446_2, e446, hx446_0, hx446_1, hx446_2, hl446_2, hi446_2⟩ := at_T34 HR0.out a1 p446 q446
                 obtain rfl : ad441 = ad446 := (by injection e446)
                 have HR446_2 := am hi446_2; have HC446_2 := am hl446_2; clear hi446_2 hl446_2; replace p446 := eq_true p446; replace q446 := eq_true q446
                 have p447 : 0 ≤ (a1 : Int) := pD
                 have q447 : a1 < (l0.length : Int) := pD
                 obtain ⟨ad447, A447_2, c447_2, e447, hx447_0, hx447_1, hx447_2, hl447_2, hi447_2⟩ := at_T34 HR0.out a1 p447 q447
                 obtain rfl : ad441 = ad447 := (by injection e447)
                 have HR447_2 := am hi447_2; have HC447_2 := am hl447_2; clear hi447_2 hl447_2; replace p447 := eq_true p447; replace q447 := eq_true q447
                 have ea_ := sj (hx446_2.symm.trans hx447_2)
                 injection ea_ with ea_ en_ ec_
                 subst ea_; subst ec_; clear en_
                 go_wp2_with (first | (go_at_call 137; (with_reducible refine (spec_l1All.calls kj4 _ _ ((rd_T34 l0 a1).f2) 0 9999 true _ ?side1 ?side2 A13.out).mono ?_); (case side1 => exact pC HR447_2.out); (case side2 => exact HC447_2.out); rintro e w' ⟨rfl, ⟨nd, rfl⟩⟩; (try first | exact ⟨rfl, _, World.drewN_drewN _ _ _⟩ | exact ⟨rfl, _, Eq.trans (World.drewN_drewN _ _ _) (congrArg (World.drewN _) (Nat.add_assoc _ _ _))⟩)))
                 repeat (go_quiet (first | (go_at_call 137; (with_reducible refine (spec_l1All.calls kj4 _ _ ((rd_T34 l0 a1).f2) 0 9999 true _ ?side1 ?side2 A13.out).mono ?_); (case side1 => exact pC HR447_2.out); (case side2 => exact HC447_2.out); rintro e w' ⟨rfl, ⟨nd, rfl⟩⟩; (try first | exact ⟨rfl, _, World.drewN_drewN _ _ _⟩ | exact ⟨rfl, _, Eq.trans (World.drewN_drewN _ _ _) (congrArg (World.drewN _) (Nat.add_assoc _ _ _))⟩))); try go_wp2_with (first | (go_at_call 137; (with_reducible refine (spec_l1All.calls kj4 _ _ ((rd_T34 l0 a1).f2) 0 9999 true _ ?side1 ?side2 A13.out).mono ?_); (case side1 => exact pC HR447_2.out); (case side2 => exact HC447_2.out); rintro e w' ⟨rfl, ⟨nd, rfl⟩⟩; (try first | exact ⟨rfl, _, World.drewN_drewN _ _ _⟩ | exact ⟨rfl, _, Eq.trans (World.drewN_drewN _ _ _) (congrArg (World.drewN _) (Nat.add_assoc _ _ _))⟩))))
                 go_loopg [6] kj4 (fun kq v6 w' => ∃ (x6_2 : Int), v6 = .int .i64 x6_2 ∧ Aside0 (spec_l3In.l0 kq l0 a1 x6_2 = some r) ∧ Aside0 (kq ≤ kj4) ∧ Drawn0 w w')
                 case atStart => exact ⟨(0), pF, H', ⟨Nat.le_refl _⟩, pW⟩
                 case round =>
                  clear H'
                  (try clear c1); (try clear c3); (try clear c3b0); (try clear c4); (try clear c4b0); (try clear c9); (try clear c10); (try clear c10b0); (try clear c11); (try clear c11b0); (try clear c12); (try clear c12b0); (try clear c12b1); (try clear c14); (try clear hx441_0); (try clear hx441_1); (try clear hx441_2); (try clear hx446_0); (try clear hx446_1); (try clear hx446_2); (try clear hx447_0); (try clear hx447_1); (try clear hx447_2); (try clear p441); (try clear p446); (try clear p447); (try clear q441); (try clear q446); (try clear q447)
                  obtain ⟨x6_2, rfl, HA, HK2, ⟨m2, rfl⟩⟩ := hrel
                  cases gk with
                  | zero => exact absurd HA.out (by simp [spec_l3In.l0])
                  | succ k2 =>
                   have H := HA.out
                   clear HA
                   simp only [spec_l3In.l0] at H
                   by_cases c15 : x6_2 < a1
                   · rw [if_pos c15] at H
                     have c15b0 : decide (x6_2 < a1) = true := dt c15
                     clear c15
                     by_cases c16 : 0 ≤ x6_2
                     · rw [if_pos c16] at H
                       have c16b0 : decide (0 ≤ x6_2) = true := dt c16
                       clear c16
                       by_cases c17 : x6_2 < (l0.length : Int)
                       · rw [if_pos c17] at H
                         have c17b0 : decide (x6_2 < (l0.length : Int)) = true := dt c17
                         clear c17
                         by_cases c18 : 0 ≤ a1
                         · rw [if_pos c18] at H
                           have c18b0 : decide (0 ≤ a1) = true := dt c18
                           clear c18
                           by_cases c19 : a1 < (l0.length : Int)
                           · rw [if_pos c19] at H
                             have c19b0 : decide (a1 < (l0.length : Int)) = true := dt c19
                             clear c19
                             by_cases c20 : ((rd_T34 l0 x6_2).f0) = ((rd_T34 l0 a1).f0)
                             · rw [if_pos c20] at H
                               have c20b0 : (((rd_T34 l0 x6_2).f0) == ((rd_T34 l0 a1).f0)) = true := beq_iff_eq.mpr c20
                               have c20b1 : (((rd_T34 l0 x6_2).f0) != ((rd_T34 l0 a1).f0)) = false := bne_eq_false_iff_eq.mpr c20
                               clear c20
                               by_cases c21 : ((rd_T34 l0 x6_2).f1) = ((rd_T34 l0 a1).f1)
                               · rw [if_pos c21] at H
                                 have c21b0 : (((rd_T34 l0 x6_2).f1) == ((rd_T34 l0 a1).f1)) = true := beq_iff_eq.mpr c21
                                 have c21b1 : (((rd_T34 l0 x6_2).f1) != ((rd_T34 l0 a1).f1)) = false := bne_eq_false_iff_eq.mpr c21
                                 clear c21
                                 obtain rfl := sj H
                                 have p449 : 0 ≤ (x6_2 : Int) := pD
                                 have q449 : x6_2 < (l0.length : Int) := pD
                                 obtain ⟨ad449, A449_2, c449_2, e449, hx449_0, hx449_1, hx449_2, hl449_2, hi449_2⟩ := at_T34 HR0.out x6_2 p449 q449
                                 obtain rfl : ad441 = ad449 := (by injection e449)
                                 have HR449_2 := am hi449_2; have HC449_2 := am hl449_2; clear hi449_2 hl449_2; replace p449 := eq_true p449; replace q449 := eq_true q449
                                 have p450 : 0 ≤ (a1 : Int) := pD
                                 have q450 : a1 < (l0.length : Int) := pD
                                 obtain ⟨ad450, A450_2, c450_2, e450, hx450_0, hx450_1, hx450_2, hl450_2, hi450_2⟩ := at_T34 HR0.out a1 p450 q450
                                 obtain rfl : ad441 = ad450 := (by injection e450)
                                 have HR450_2 := am hi450_2; have HC450_2 := am hl450_2; clear hi450_2 hl450_2; replace p450 := eq_true p450; replace q450 := eq_true q450
                                 have p451 : 0 ≤ (x6_2 : Int) := pD
                                 have q451 : x6_2 < (l0.length : Int) := pD
                                 obtain ⟨ad451, A451_2, c451_2, e451, hx451_0, hx451_1, hx451_2, hl451_2, hi451_2⟩ := at_T34 HR0.out x6_2 p451 q451
                                 obtain rfl : ad441 = ad451 := (by injection e451)
                                 have HR451_2 := am hi451_2; have HC451_2 := am hl451_2; clear hi451_2 hl451_2; replace p451 := eq_true p451; replace q451 := eq_true q451
                                 have ea_ := sj (hx449_2.symm.trans hx451_2)
                                 injection ea_ with ea_ en_ ec_
                                 subst ea_; subst ec_; clear en_
                                 have p452 : 0 ≤ (a1 : Int) := pD
                                 have q452 : a1 < (l0.length : Int) := pD
                                 obtain ⟨ad452, A452_2, c452_2, e452, hx452_0, hx452_1, hx452_2, hl452_2, hi452_2⟩ := at_T34 HR0.out a1 p452 q452
                                 obtain rfl : ad441 = ad452 := (by injection e452)
                                 have HR452_2 := am hi452_2; have HC452_2 := am hl452_2; clear hi452_2 hl452_2; replace p452 := eq_true p452; replace q452 := eq_true q452
                                 have ea_ := sj (hx450_2.symm.trans hx452_2)
                                 injection ea_ with ea_ en_ ec_
                                 subst ea_; subst ec_; clear en_
                                 go_wp2
                                 repeat (go_quiet (fail); try go_wp2)
                                 go_ret
                                 exact ⟨by first | rfl | (simp; done) | (simp [*]; done), pW⟩
                               · rw [if_neg c21] at H
                                 have c21b0 : (((rd_T34 l0 x6_2).f1) == ((rd_T34 l0 a1).f1)) = false := beq_eq_false_iff_ne.mpr c21
                                 have c21b1 : (((rd_T34 l0 x6_2).f1) != ((rd_T34 l0 a1).f1)) = true := bne_iff_ne.mpr c21
                                 have H' := am H
                                 clear H
                                 have p449 : 0 ≤ (x6_2 : Int) := pD
                                 have q449 : x6_2 < (l0.length : Int) := pD
                                 obtain ⟨ad449, A449_2, c449_2, e449, hx449_0, hx449_1, hx449_2, hl449_2, hi449_2⟩ := at_T34 HR0.out x6_2 p449 q449
                                 obtain rfl : ad441 = ad449 := (by injection e449)
                                 have HR449_2 := am hi449_2; have HC449_2 := am hl449_2; clear hi449_2 hl449_2; replace p449 := eq_true p449; replace q449 := eq_true q449
                                 have p450 : 0 ≤ (a1 : Int) := pD
                                 have q450 : a1 < (l0.length : Int) := pD
                                 obtain ⟨ad450, A450_2, c450_2, e450, hx450_0, hx450_1, hx450_2, hl450_2, hi450_2⟩ := at_T34 HR0.out a1 p450 q450
                                 obtain rfl : ad441 = ad450 := (by injection e450)
                                 have HR450_2 := am hi450_2; have HC450_2 := am hl450_2; clear hi450_2 hl450_2; replace p450 := eq_true p450; replace q450 := eq_true q450
                                 have p451 : 0 ≤ (x6_2 : Int) := pD
                                 have q451 : x6_2 < (l0.length : Int) := pD
                                 obtain ⟨ad451, A451_2, c451_2, e451, hx451_0, hx451_1, hx451_2, hl451_2, hi451_2⟩ := at_T34 HR0.out x6_2 p451 q451
                                 obtain rfl : ad441 = ad451 := (by injection e451)
                                 have HR451_2 := am hi451_2; have HC451_2 := am hl451_2; clear hi451_2 hl451_2; replace p451 := eq_true p451; replace q451 := eq_true q451
                                 have ea_ := sj (hx449_2.symm.trans hx451_2)
                                 injection ea_ with ea_ en_ ec_
                                 subst ea_; subst ec_; clear en_
                                 have p452 : 0 ≤ (a1 : Int) := pD
                                 have q452 : a1 < (l0.length : Int) := pD
                                 obtain ⟨ad452, A452_2, c452_2, e452, hx452_0, hx452_1, hx452_2, hl452_2, hi452_2⟩ := at_T34 HR0.out a1 p452 q452
                                 obtain rfl : ad441 = ad452 := (by injection e452)
                                 have HR452_2 := am hi452_2; have HC452_2 := am hl452_2; clear hi452_2 hl452_2; replace p452 := eq_true p452; replace q452 := eq_true q452
                                 have ea_ := sj (hx450_2.symm.trans hx452_2)
                                 injection ea_ with ea_ en_ ec_
                                 subst ea_; subst ec_; clear en_
                                 go_wp2
                                 repeat (go_quiet (fail); try go_wp2)
                                 go_roundg k2
                                 case measure => have := HJ4.out; have := HK2.out; omega
                                 case rel => exact ⟨(wrap64 (x6_2 + 1)), pF, H', ⟨by have := HJ4.out; have := HK2.out; omega⟩, pW⟩
                             · rw [if_neg c20] at H
                               have c20b0 : (((rd_T34 l0 x6_2).f0) == ((rd_T34 l0 a1).f0)) = false := beq_eq_false_iff_ne.mpr c20
                               have c20b1 : (((rd_T34 l0 x6_2).f0) != ((rd_T34 l0 a1).f0)) = true := bne_iff_ne.mpr c20
                               have H' := am H
                               clear H
                               have p449 : 0 ≤ (x6_2 : Int) := pD
                               have q449 : x6_2 < (l0.length : Int) := pD
                               obtain ⟨ad449, A449_2, c449_2, e449, hx449_0, hx449_1, hx449_2, hl449_2, hi449_2⟩ := at_T34 HR0.out x6_2 p449 q449
                               obtain rfl : ad441 = ad449 := (by injection e449)
                               have HR449_2 := am hi449_2; have HC449_2 := am hl449_2; clear hi449_2 hl449_2; replace p449 := eq_true p449; replace q449 := eq_true q449
                               have p450 : 0 ≤ (a1 : Int) := pD
                               have q450 : a1 < (l0.length : Int) := pD
                               obtain ⟨ad450, A450_2, c450_2, e450, hx450_0, hx450_1, hx450_2, hl450_2, hi450_2⟩ := at_T34 HR0.out a1 p450 q450
                               obtain rfl : ad441 = ad450 := (by injection e450)
                               have HR450_2 := am hi450_2; have HC450_2 := am hl450_2; clear hi450_2 hl450_2; replace p450 := eq_true p450; replace q450 := eq_true q450
                               go_wp2
                               repeat (go_quiet (fail); try go_wp2)
                               go_roundg k2
                               case measure => have := HJ4.out; have := HK2.out; omega
                               case rel => exact ⟨(wrap64 (x6_2 + 1)), pF, H', ⟨by have := HJ4.out; have := HK2.out; omega⟩, pW⟩
                           · rw [if_neg c19] at H
                             exact absurd H (by simp)
                         · rw [if_neg c18] at H
                           exact absurd H (by simp)
                       · rw [if_neg c17] at H
                         exact absurd H (by simp)
                     · rw [if_neg c16] at H
                       exact absurd H (by simp)
                   · rw [if_neg c15] at H
                     have c15b0 : decide (x6_2 < a1) = false := decide_eq_false c15
                     clear c15
                     obtain rfl := sj H
                     go_wp2
                     repeat (go_quiet (fail); try go_wp2)
                     go_ret
                     exact ⟨by first | rfl | (simp; done) | (simp [*]; done), pW⟩
               · replace c14 := Bool.eq_false_iff.mpr c14
                 subst c14
                 have H1 : (some 3) = some r := by rw [if_neg (show ¬ (false = true) by decide)] at H; exact H
                 clear H; have H := H1; clear H1
                 obtain rfl := sj H
                 have p446 : 0 ≤ (a1 : Int) := pD
                 have q446 : a1 < (l0.length : Int) := pD
                 obtain ⟨ad446, A446_2, c446_2, e446, hx446_0, hx446_1, hx446_2, hl446_2, hi446_2⟩ := at_T34 HR0.out a1 p446 q446
                 obtain rfl : ad441 = ad446 := (by injection e446)
                 have HR446_2 := am hi446_2; have HC446_2 := am hl446_2; clear hi446_2 hl446_2; replace p446 := eq_true p446; replace q446 := eq_true q446
                 have p447 : 0 ≤ (a1 : Int) := pD
                 have q447 : a1 < (l0.length : Int) := pD
                 obtain ⟨ad447, A447_2, c447_2, e447, hx447_0, hx447_1, hx447_2, hl447_2, hi447_2⟩ := at_T34 HR0.out a1 p447 q447
                 obtain rfl : ad441 = ad447 := (by injection e447)
                 have HR447_2 := am hi447_2; have HC447_2 := am hl447_2; clear hi447_2 hl447_2; replace p447 := eq_true p447; replace q447 := eq_true q447
                 have ea_ := sj (hx446_2.symm.trans hx447_2)
                 injection ea_ with ea_ en_ ec_
                 subst ea_; subst ec_; clear en_
                 go_wp2_with (first | (go_at_call 137; (with_reducible refine (spec_l1All.calls kj4 _ _ ((rd_T34 l0 a1).f2) 0 9999 false _ ?side1 ?side2 A13.out).mono ?_); (case side1 => exact pC HR447_2.out); (case side2 => exact HC447_2.out); rintro e w' ⟨rfl, ⟨nd, rfl⟩⟩; (try first | exact ⟨rfl, _, World.drewN_drewN _ _ _⟩ | exact ⟨rfl, _, Eq.trans (World.drewN_drewN _ _ _) (congrArg (World.drewN _) (Nat.add_assoc _ _ _))⟩)))
                 repeat (go_quiet (first | (go_at_call 137; (with_reducible refine (spec_l1All.calls kj4 _ _ ((rd_T34 l0 a1).f2) 0 9999 false _ ?side1 ?side2 A13.out).mono ?_); (case side1 => exact pC HR447_2.out); (case side2 => exact HC447_2.out); rintro e w' ⟨rfl, ⟨nd, rfl⟩⟩; (try first | exact ⟨rfl, _, World.drewN_drewN _ _ _⟩ | exact ⟨rfl, _, Eq.trans (World.drewN_drewN _ _ _) (congrArg (World.drewN _) (Nat.add_assoc _ _ _))⟩))); try go_wp2_with (first | (go_at_call 137; (with_reducible refine (spec_l1All.calls kj4 _ _ ((rd_T34 l0 a1).f2) 0 9999 false _ ?side1 ?side2 A13.out).mono ?_); (case side1 => exact pC HR447_2.out); (case side2 => exact HC447_2.out); rintro e w' ⟨rfl, ⟨nd, rfl⟩⟩; (try first | exact ⟨rfl, _, World.drewN_drewN _ _ _⟩ | exact ⟨rfl, _, Eq.trans (World.drewN_drewN _ _ _) (congrArg (World.drewN _) (Nat.add_assoc _ _ _))⟩))))
                 go_ret
                 exact ⟨by first | rfl | (simp; done) | (simp [*]; done), pW⟩
           · rw [if_neg c11] at H
             exact absurd H (by simp)
         · rw [if_neg c10] at H
           exact absurd H (by simp)
   · rw [if_neg c4] at H
     exact absurd H (by simp)
 · rw [if_neg c3] at H
   exact absurd H (by simp)
end Go.Proofs.Ythjlbpgiaehjnaa.QFnNames
