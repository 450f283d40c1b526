-- written by this session's program (wip/tools/myprint.py)
import Derived.Test.YthjlbpgiaehjnaaQFnExactBlockRootx0
import Derived.Test.YthjlbpgiaehjnaaQFnExactBlockRootx9
import Derived.Test.YthjlbpgiaehjnaaQFnExactBlockRootx10
import Derived.Test.YthjlbpgiaehjnaaQFnExactBlockRootx11
-- squeezed
namespace Go.Proofs.Ythjlbpgiaehjnaa.QFnExactBlockRoot
open Go.RowKit Go.Proofs.YthjlbpgiaehjnaaW.PrintWords Go.Proofs.YthjlbpgiaehjnaaW.PrintLast Go.Proofs.YthjlbpgiaehjnaaW.PrintMore
attribute [local go_sem] max2_int min2_int max_two min_two max_three min_three max_four min_four   -- for this text's walks alone
set_option linter.unusedVariables false
set_option linter.unusedSimpArgs false
set_option maxHeartbeats 8000000
set_option maxRecDepth 100000
def spec_l6Fault.f (k : Nat) (a0_0 : Int) (a0_1 : Int) (a0_2 : Int) (a0_3 : Int) (l0_4 : List (S27)) : Option (Int) := spec_l6Fault_in.f k [(⟨a0_0, a0_1, a0_2, a0_3, l0_4⟩ : S72)]
theorem spec_l6Fault.mono : ∀ (a0_0 : Int) (a0_1 : Int) (a0_2 : Int) (a0_3 : Int) (l0_4 : List (S27)) (k : Nat), LeO (spec_l6Fault.f k a0_0 a0_1 a0_2 a0_3 l0_4) (spec_l6Fault.f (k + 1) a0_0 a0_1 a0_2 a0_3 l0_4) := fun a0_0 a0_1 a0_2 a0_3 l0_4 k => spec_l6Fault_in.mono [(⟨a0_0, a0_1, a0_2, a0_3, l0_4⟩ : S72)] k
set_option maxHeartbeats 8000000 in
theorem spec_l6Fault.calls (k : Nat) (a0_0 : Int) (a0_1 : Int) (a0_2 : Int) (a0_3 : Int) (A0_4 : Option Addr) (c0_4 : Nat) (l0_4 : List (S27)) (r : Int) (w : World) (hr0_4 : Kd.C k27 w A0_4 l0_4.length l0_4) (hc0_4 : l0_4.length ≤ c0_4) (h : spec_l6Fault.f k a0_0 a0_1 a0_2 a0_3 l0_4 = some r) {pp0 : Addr} (hpp0_0 : w.cell? pp0 = some (.int .i64 a0_0)) (hpp0_1 : w.cell? ⟨pp0.block, pp0.off + 1, none⟩ = some (.int .i64 a0_1)) (hpp0_2 : w.cell? ⟨pp0.block, pp0.off + 2, none⟩ = some (.int .i64 a0_2)) (hpp0_3 : w.cell? ⟨pp0.block, pp0.off + 3, none⟩ = some (.int .i64 a0_3)) (hpp0_4 : w.cell? ⟨pp0.block, pp0.off + 4, none⟩ = some (.slice A0_4 l0_4.length c0_4)) :
 Calls Try.prog 89 #[.pointer (some pp0)] w fun e w' => e = .returned (.int .i64 r) ∧ Below w.heap.size w w' := by
 have o0 : Kd.C k72 w (some pp0) 1 [(⟨a0_0, a0_1, a0_2, a0_3, l0_4⟩ : S72)] := by
  refine ⟨rfl, by decide, fun _ => ⟨pp0, rfl, fun j p hj => ?_⟩⟩
  cases j with
  | succ j => simp at hj
  | zero =>
   obtain rfl : (⟨a0_0, a0_1, a0_2, a0_3, l0_4⟩ : S72) = p := by simpa using hj
   refine ⟨_, rfl, k72_mk w _ hc0_4 hr0_4, fun i u hu => ?_⟩
   match i, hu with
   | 0, hu => obtain rfl := sj hu; exact hpp0_0
   | 1, hu => obtain rfl := sj hu; exact hpp0_1
   | 2, hu => obtain rfl := sj hu; exact hpp0_2
   | 3, hu => obtain rfl := sj hu; exact hpp0_3
   | 4, hu => obtain rfl := sj hu; exact hpp0_4
 exact spec_l6Fault_in.calls k (some pp0) 1 [(⟨a0_0, a0_1, a0_2, a0_3, l0_4⟩ : S72)] r w o0 (Nat.le_refl 1) h
def spec_l4Root.l0 : Nat → List Int → Option (Int)
 | 0, _ => none
 | k + 1, x3 => if (x3.length : Int) > 1 then ((spec_l4Above.f k x3).bind fun t397 => (spec_l4Root.l0 k t397)) else (if 0 < (x3.length : Int) then (some (rd x3 0)) else (none))
def spec_l4Root.f (k : Nat) (l0 : List Int) : Option (Int) := spec_l4Root.l0 k l0
theorem spec_l4Root.mono_l : ∀ k, (∀ y0, LeO (spec_l4Root.l0 k y0) (spec_l4Root.l0 (k + 1) y0))
 | 0 => fun _ r h => by simp [spec_l4Root.l0] at h
 | k + 1 => by
  have ih0 := spec_l4Root.mono_l k
  · intro y0
    unfold spec_l4Root.l0
    repeat' with_reducible first | exact ih0 _ | exact spec_l4Above.mono _ _ | exact LeO.refl _ | exact LeO.none _ | refine LeO.ite ?_ ?_ | refine LeO.bind ?_ (fun _ => ?_)
theorem spec_l4Root.mono : ∀ a0 k, LeO (spec_l4Root.f k a0) (spec_l4Root.f (k + 1) a0) := by
 intro a0 k
 have ih0 := spec_l4Root.mono_l k
 unfold spec_l4Root.f
 repeat' with_reducible first | exact ih0 _ | exact spec_l4Above.mono _ _ | exact LeO.refl _ | exact LeO.none _ | refine LeO.ite ?_ ?_ | refine LeO.bind ?_ (fun _ => ?_)
theorem spec_l4Root.calls (k : Nat) (P0_ : Nat → Prop) (A0 : Option Addr) (c0 : Nat) (l0 : List Int) (r : Int) (w : World) (hs0 : Kd.V (Kd.int .i64) 2 w w.heap.size (fun k_ => P0_ k_) (.slice A0 l0.length c0) l0) (h : spec_l4Root.f k l0 = some r) :
 Calls Try.prog 97 #[.slice A0 l0.length c0] w fun e w' => e = .returned (.int .i64 r) ∧ Below w.heap.size w w' := by
 have HO0 := am (show Kd.V (Kd.int .i64) 2 w w.heap.size (fun k_ => (P0_ k_ ∨ w.heap.size ≤ k_)) (.slice A0 l0.length c0) l0 from Kd.V_mono hs0 (fun k_ hk => .inl hk))
 have HB := am (Below.refl w.heap.size w)
 have H : (spec_l4Root.l0 k l0) = some r := h
 clear h
 have H' := am H
 clear H
 go_enter Try.func97, Try.ntmps97
 go_wp2
 go_loopg [3] k (fun kq v3 w' => ∃ (x3_1 : List Int), Aside0 (spec_l4Root.l0 kq x3_1 = some r) ∧ Aside0 (kq ≤ k) ∧ Aside0 (Kd.V (Kd.int .i64) 2 w' w.heap.size (fun k_ => (P0_ k_ ∨ w.heap.size ≤ k_)) v3 x3_1) ∧ Aside0 (Below w.heap.size w w'))
 case atStart => exact ⟨(l0), H', ⟨Nat.le_refl _⟩, ⟨by (with_reducible repeat (first | apply Kd.V_alloc | apply Kd.V_drewN | apply Kd.V_drew)); exact HO0.out⟩, ⟨pB⟩⟩
 case round =>
  clear H'
  obtain ⟨x3_1, HA, HK1, HO_3, HB⟩ := hrel
  cases gk with
  | zero => exact absurd HA.out (by simp [spec_l4Root.l0])
  | succ k1 =>
   have H := HA.out
   clear HA
   simp only [spec_l4Root.l0] at H
   by_cases c2 : (x3_1.length : Int) > 1
   · rw [if_pos c2] at H
     have c2b0 : decide (1 < (x3_1.length : Int)) = true := dt c2
     have c2b1 : decide (1 < x3_1.length) = true := dt (by omega)
     clear c2
     obtain ⟨t397, A30, H⟩ := bO H
     replace H : (spec_l4Root.l0 k1 t397) = some r := H
     have A3 := am A30; clear A30
     have H' := am H
     clear H
     obtain ⟨Ao4, co4, eo4⟩ := Kd.V_slice HO_3.out
     subst eo4
     go_wp2_with (first | ((with_reducible refine gC (f := 136) rfl ?_); refine goesL_ (some 9) rfl rfl Try.func136 (by kernel_rfl) rfl #[.slice Ao4 x3_1.length co4] rfl pA ?_; (with_reducible refine (spec_l4Above.calls k1 _ _ x3_1 t397 _ ?side1 ?side2 A3.out).mono ?_); (case side1 => exact pC (Kd.V_reads' HO_3.out).2.2); (case side2 => exact (Kd.V_reads' HO_3.out).2.1); rintro e w5 ⟨v398, rfl, ho0, hb⟩; refine ⟨_, rfl, ?_⟩; have n_ := t3 (Kd.V_elder' (by (with_reducible repeat (first | apply Kd.V_alloc | apply Kd.V_drewN | apply Kd.V_drew)); exact HO_3.out) (rB ho0) hb) (rL (Kd.R_newM (M := fun k_ => (w.heap.size ≤ k_)) ho0 (bs_ pB) (fun k_ h_ => h_)) (bs_ pB)) (bz_ pB hb); clear HO_3 HB; obtain ⟨HO_3, HO399, HB⟩ := n_; (try clear hb); (try clear ho0)))
     go_roundg k1
     case measure => have := HK1.out; omega
     case rel => exact ⟨(t397), H', ⟨by have := HK1.out; omega⟩, ⟨Kd.V_mono (Kd.R_V (pT (Kd.R_mono HO399.out (fun _ hk => hk.1)))) (fun k_ hk => by first | exact ⟨(.inr (hk.1)), hk.2⟩ | exact (.inr (hk)))⟩, ⟨pB⟩⟩
   · rw [if_neg c2] at H
     have c2b0 : decide (1 < (x3_1.length : Int)) = false := decide_eq_false c2
     have c2b1 : decide (1 < x3_1.length) = false := decide_eq_false (by omega)
     clear c2
     by_cases c6 : 0 < (x3_1.length : Int)
     · rw [if_pos c6] at H
       have c6b0 : decide (0 < (x3_1.length : Int)) = true := dt c6
       have c6b1 : decide (0 < x3_1.length) = true := dt (by omega)
       clear c6
       obtain rfl := sj H
       obtain ⟨Ao7, co7, eo7⟩ := Kd.V_slice HO_3.out
       subst eo7
       have p400 : 0 ≤ (0 : Int) := (by omega)
       have q400 : 0 < (x3_1.length : Int) := pD
       obtain ⟨ad400, e400, hx400_0⟩ := Kd.at_int (Kd.V_reads' HO_3.out).2.2 0 p400 q400
       cases e400
       have qi400 : (0 < x3_1.length) = True := eq_true (by omega)
       (try rw [show ((0 : Int)).toNat = 0 from rfl] at hx400_0)
       (try rw [Addr.add_zero'] at hx400_0); replace p400 := eq_true p400; replace q400 := eq_true q400
       go_wp2
       go_ret
       exact ⟨pE, pB⟩
     · rw [if_neg c6] at H
       exact absurd H (by simp)
def spec_BlockRoot.f (k : Nat) (a0_0 : Int) (a0_1 : Int) (a0_2 : Int) (a0_3 : Int) (l0_4 : List (S27)) : Option (Int × Int) := (spec_l6Fault.f k a0_0 a0_1 a0_2 a0_3 l0_4).bind fun t403 => (if t403 = 0 then ((spec_l6Sums.f k a0_0 a0_1 a0_2 a0_3 l0_4).bind fun t404 => ((spec_l4Root.f k t404).bind fun t407 => (some (0, t407)))) else (some (t403, 0)))
theorem spec_BlockRoot.mono : ∀ a0 a1 a2 a3 a4 k, LeO (spec_BlockRoot.f k a0 a1 a2 a3 a4) (spec_BlockRoot.f (k + 1) a0 a1 a2 a3 a4) := by
 intro a0 a1 a2 a3 a4 k
 unfold spec_BlockRoot.f
 repeat' with_reducible first | exact spec_l4Root.mono _ _ | exact spec_l6Fault.mono _ _ _ _ _ _ | exact spec_l6Sums.mono _ _ _ _ _ _ | exact LeO.refl _ | exact LeO.none _ | refine LeO.ite ?_ ?_ | refine LeO.bind ?_ (fun _ => ?_)
theorem spec_BlockRoot.calls (k : Nat) (a0_0 : Int) (a0_1 : Int) (a0_2 : Int) (a0_3 : Int) (A0_4 : Option Addr) (c0_4 : Nat) (l0_4 : List (S27)) (r1 : Int) (r2 : Int) (w : World) (hr0_4 : Kd.C k27 w A0_4 l0_4.length l0_4) (hc0_4 : l0_4.length ≤ c0_4) (h : spec_BlockRoot.f k a0_0 a0_1 a0_2 a0_3 l0_4 = some (r1, r2)) :
 Calls Try.prog 48 #[.agg #[.int .i64 a0_0, .int .i64 a0_1, .int .i64 a0_2, .int .i64 a0_3, .slice A0_4 l0_4.length c0_4]] w fun e w' => e = .returned (.agg #[.int .i64 r1, .int .i64 r2]) ∧ Below w.heap.size w w' := by
 have hu72 := Try.underlying72
 have hu30 := Try.underlying30
 have HR0_4 := am hr0_4; have HC0_4 := am hc0_4; clear hr0_4 hc0_4
 have HB := am (Below.refl w.heap.size w)
 have H : ((spec_l6Fault.f k a0_0 a0_1 a0_2 a0_3 l0_4).bind fun t403 => (if t403 = 0 then ((spec_l6Sums.f k a0_0 a0_1 a0_2 a0_3 l0_4).bind fun t404 => ((spec_l4Root.f k t404).bind fun t407 => (some (0, t407)))) else (some (t403, 0)))) = some (r1, r2) := h
 clear h
 obtain ⟨t403, A20, H⟩ := bO H
 replace H : (if t403 = 0 then ((spec_l6Sums.f k a0_0 a0_1 a0_2 a0_3 l0_4).bind fun t404 => ((spec_l4Root.f k t404).bind fun t407 => (some (0, t407)))) else (some (t403, 0))) = some (r1, r2) := H
 have A2 := am A20; clear A20
 by_cases c3 : t403 = 0
 · rw [if_pos c3] at H
   have c3b0 : (t403 == 0) = true := beq_iff_eq.mpr c3
   have c3b1 : (t403 != 0) = false := bne_eq_false_iff_eq.mpr c3
   clear c3
   obtain ⟨t404, A40, H⟩ := bO H
   replace H : ((spec_l4Root.f k t404).bind fun t407 => (some (0, t407))) = some (r1, r2) := H
   have A4 := am A40; clear A40
   obtain ⟨t407, A50, H⟩ := bO H
   replace H : (some (0, t407)) = some (r1, r2) := H
   have A5 := am A50; clear A50
   simp only [Option.some.injEq, Prod.mk.injEq] at H
   obtain ⟨rfl, rfl⟩ := H
   go_enter Try.func48, Try.ntmps48
   go_wp2_with (first | ((with_reducible refine gate_dst (N := 1) rfl ?_); refine box_event ?hg (N := 1) ?hd (cs := #[.int .i64 a0_0, .int .i64 a0_1, .int .i64 a0_2, .int .i64 a0_3, .slice A0_4 l0_4.length c0_4]) (t := 72) ?hr ?_; (case hd => rfl); (case hg => rfl); (case hr => first | (go_simp; done) | (go_simp; rfl)); intro gb401 hg w6 hbox hb; have n_ := t4 (bz_ pB hb) (hbox) ((by rw [hg]; exact (bs_ pB) : w.heap.size ≤ gb401)) ((by rw [hg]; exact (bs_ pB) : w.heap.size ≤ gb401)); clear HB; obtain ⟨HB, BK401, GW401, GE401⟩ := n_; clear hb hbox hg) | ((with_reducible refine gate_dst (N := 2) rfl ?_); refine box_event ?hg (N := 2) ?hd (cs := #[.int .i64 0, .int .i64 0]) (t := 30) ?hr ?_; (case hd => rfl); (case hg => rfl); (case hr => first | (go_simp; done) | (go_simp; rfl)); intro gb402 hg w7 hbox hb; have n_ := t7 (blk_below (g := gb401) (o := .cells #[.int .i64 a0_0, .int .i64 a0_1, .int .i64 a0_2, .int .i64 a0_3, .slice A0_4 l0_4.length c0_4] 72 (0, 0)) (pK BK401) hb) (bz_ pB hb) (hbox) ((by rw [hg]; exact (bs_ pB) : w.heap.size ≤ gb402)) ((by rw [hg]; exact (bs_ pB) : w.heap.size ≤ gb402)) ((by rw [hg]; exact Nat.ne_of_lt (blk_lt (g := gb401) (o := .cells #[.int .i64 a0_0, .int .i64 a0_1, .int .i64 a0_2, .int .i64 a0_3, .slice A0_4 l0_4.length c0_4] 72 (0, 0)) (pK BK401)) : gb401 ≠ gb402)) ((by rw [hg]; exact Nat.ne_of_gt (blk_lt (g := gb401) (o := .cells #[.int .i64 a0_0, .int .i64 a0_1, .int .i64 a0_2, .int .i64 a0_3, .slice A0_4 l0_4.length c0_4] 72 (0, 0)) (pK BK401)) : gb402 ≠ gb401)); clear BK401 HB; obtain ⟨BK401, HB, BK402, GW402, GE402, NB401_402, NB402_401⟩ := n_; clear hb hbox hg; have hnb8 := NB401_402.out; have hnc8 := NB402_401.out; have hcz9_0 : w7.cell? ⟨gb401, 0, none⟩ = some (.int .i64 a0_0) := (blk_cell BK401.out 0).trans rfl; have hcz9_1 : w7.cell? ⟨gb401, 1, none⟩ = some (.int .i64 a0_1) := (blk_cell BK401.out 1).trans rfl; have hcz9_2 : w7.cell? ⟨gb401, 2, none⟩ = some (.int .i64 a0_2) := (blk_cell BK401.out 2).trans rfl; have hcz9_3 : w7.cell? ⟨gb401, 3, none⟩ = some (.int .i64 a0_3) := (blk_cell BK401.out 3).trans rfl; have hcz9_4 : w7.cell? ⟨gb401, 4, none⟩ = some (.slice A0_4 l0_4.length c0_4) := (blk_cell BK401.out 4).trans rfl; have hfz9_0 := blk_frozen BK401.out 0; have hfz9_1 := blk_frozen BK401.out 1; have hfz9_2 := blk_frozen BK401.out 2; have hfz9_3 := blk_frozen BK401.out 3; have hfz9_4 := blk_frozen BK401.out 4) | ((with_reducible refine gC (f := 89) rfl ?_); refine goesL_ (some 4) rfl rfl Try.func89 (by kernel_rfl) rfl #[.pointer (some _)] rfl pA ?_; (refine Calls.mono (spec_l6Fault.calls k a0_0 a0_1 a0_2 a0_3 _ _ l0_4 t403 _ ?side1 ?side2 A2.out (hpp0_0 := by first | (with_unfolding_all assumption) | (dsimp only; assumption) | (dsimp only [Nat.zero_add]; exact (blk_cell (Aside0.out (by assumption)) _).trans rfl) | (go_simp; done)) (hpp0_1 := by first | (with_unfolding_all assumption) | (dsimp only; assumption) | (dsimp only [Nat.zero_add]; exact (blk_cell (Aside0.out (by assumption)) _).trans rfl) | (go_simp; done)) (hpp0_2 := by first | (with_unfolding_all assumption) | (dsimp only; assumption) | (dsimp only [Nat.zero_add]; exact (blk_cell (Aside0.out (by assumption)) _).trans rfl) | (go_simp; done)) (hpp0_3 := by first | (with_unfolding_all assumption) | (dsimp only; assumption) | (dsimp only [Nat.zero_add]; exact (blk_cell (Aside0.out (by assumption)) _).trans rfl) | (go_simp; done)) (hpp0_4 := by first | (with_unfolding_all assumption) | (dsimp only; assumption) | (dsimp only [Nat.zero_add]; exact (blk_cell (Aside0.out (by assumption)) _).trans rfl) | (go_simp; done))) ?_); (case side1 => exact pC (Kd.C_below HR0_4.out HB.out)); (case side2 => exact HC0_4.out); rintro e w10 ⟨rfl, hb⟩; refine ⟨_, rfl, ?_⟩; have n_ := t3 (blk_below (g := gb401) (o := .cells #[.int .i64 a0_0, .int .i64 a0_1, .int .i64 a0_2, .int .i64 a0_3, .slice A0_4 l0_4.length c0_4] 72 (0, 0)) (pK BK401) hb) (blk_below (g := gb402) (o := .cells #[.int .i64 0, .int .i64 0] 30 (0, 0)) (pK BK402) hb) (bz_ pB hb); clear BK401 BK402 HB; obtain ⟨BK401, BK402, HB⟩ := n_; (try clear hb); have hcz11_0 : w10.cell? ⟨gb401, 0, none⟩ = some (.int .i64 a0_0) := (blk_cell BK401.out 0).trans rfl; have hcz11_1 : w10.cell? ⟨gb401, 1, none⟩ = some (.int .i64 a0_1) := (blk_cell BK401.out 1).trans rfl; have hcz11_2 : w10.cell? ⟨gb401, 2, none⟩ = some (.int .i64 a0_2) := (blk_cell BK401.out 2).trans rfl; have hcz11_3 : w10.cell? ⟨gb401, 3, none⟩ = some (.int .i64 a0_3) := (blk_cell BK401.out 3).trans rfl; have hcz11_4 : w10.cell? ⟨gb401, 4, none⟩ = some (.slice A0_4 l0_4.length c0_4) := (blk_cell BK401.out 4).trans rfl; have hfz11_0 := blk_frozen BK401.out 0; have hfz11_1 := blk_frozen BK401.out 1; have hfz11_2 := blk_frozen BK401.out 2; have hfz11_3 := blk_frozen BK401.out 3; have hfz11_4 := blk_frozen BK401.out 4) | ((with_reducible refine gC (f := 98) rfl ?_); refine goesL_ (some 9) rfl rfl Try.func98 (by kernel_rfl) rfl #[.pointer (some _)] rfl pA ?_; (refine Calls.mono (spec_l6Sums.calls k a0_0 a0_1 a0_2 a0_3 _ _ l0_4 t404 _ ?side1 ?side2 A4.out (hpp0_0 := by first | (with_unfolding_all assumption) | (dsimp only; assumption) | (dsimp only [Nat.zero_add]; exact (blk_cell (Aside0.out (by assumption)) _).trans rfl) | (go_simp; done)) (hpp0_1 := by first | (with_unfolding_all assumption) | (dsimp only; assumption) | (dsimp only [Nat.zero_add]; exact (blk_cell (Aside0.out (by assumption)) _).trans rfl) | (go_simp; done)) (hpp0_2 := by first | (with_unfolding_all assumption) | (dsimp only; assumption) | (dsimp only [Nat.zero_add]; exact (blk_cell (Aside0.out (by assumption)) _).trans rfl) | (go_simp; done)) (hpp0_3 := by first | (with_unfolding_all assumption) | (dsimp only; assumption) | (dsimp only [Nat.zero_add]; exact (blk_cell (Aside0.out (by assumption)) _).trans rfl) | (go_simp; done)) (hpp0_4 := by first | (with_unfolding_all assumption) | (dsimp only; assumption) | (dsimp only [Nat.zero_add]; exact (blk_cell (Aside0.out (by assumption)) _).trans rfl) | (go_simp; done))) ?_); (case side1 => exact pC (Kd.C_below HR0_4.out HB.out)); (case side2 => exact HC0_4.out); rintro e w12 ⟨v405, rfl, ho0, hb⟩; refine ⟨_, rfl, ?_⟩; have n_ := t4 (rL ho0 (bs_ pB)) (blk_below (g := gb401) (o := .cells #[.int .i64 a0_0, .int .i64 a0_1, .int .i64 a0_2, .int .i64 a0_3, .slice A0_4 l0_4.length c0_4] 72 (0, 0)) (pK BK401) hb) (blk_below (g := gb402) (o := .cells #[.int .i64 0, .int .i64 0] 30 (0, 0)) (pK BK402) hb) (bz_ pB hb); clear BK401 BK402 HB; obtain ⟨HO406, BK401, BK402, HB⟩ := n_; (try clear hb); (try clear ho0); obtain ⟨Ao13, co13, eo13⟩ := rS HO406.out; subst eo13) | ((with_reducible refine gC (f := 97) rfl ?_); refine goesL_ (some 10) rfl rfl Try.func97 (by kernel_rfl) rfl #[.slice Ao13 t404.length co13] rfl pA ?_; (with_reducible refine (spec_l4Root.calls k (fun k_ => some k_ = (.slice Ao13 t404.length co13 : Value).ownBlock) _ _ t404 t407 _ ?side1 A5.out).mono ?_); (case side1 => exact Kd.R_V (Kd.R_tight rfl (Kd.R_types (Kd.R_types (HO406.out) BK401.out (by decide)) BK402.out (by decide)))); rintro e w14 ⟨rfl, hb⟩; refine ⟨_, rfl, ?_⟩; have n_ := t4 (Kd.R_below (pR HO406) hb) (blk_below (g := gb401) (o := .cells #[.int .i64 a0_0, .int .i64 a0_1, .int .i64 a0_2, .int .i64 a0_3, .slice A0_4 l0_4.length c0_4] 72 (0, 0)) (pK BK401) hb) (blk_below (g := gb402) (o := .cells #[.int .i64 0, .int .i64 0] 30 (0, 0)) (pK BK402) hb) (bz_ pB hb); clear HO406 BK401 BK402 HB; obtain ⟨HO406, BK401, BK402, HB⟩ := n_; (try clear hb); have hcz15_0 : w14.cell? ⟨gb402, 0, none⟩ = some (.int .i64 0) := (blk_cell BK402.out 0).trans rfl; have hcz15_1 : w14.cell? ⟨gb402, 1, none⟩ = some (.int .i64 0) := (blk_cell BK402.out 1).trans rfl; have hfz15_0 := blk_frozen BK402.out 0; have hfz15_1 := blk_frozen BK402.out 1))
   refine bodyPost_ret (results_cell_row rfl _ _ gb402 30 #[.int .i64 0, .int .i64 t407] (0, 0) _ rfl (by (with_reducible repeat (first | refine blk_drewN ?_ _ | refine blk_drew ?_ | refine blk_alloc ?_ _)); refine blk_put (cs := #[.int .i64 0, .int .i64 0]) ?_ 1 _ rfl; (with_reducible repeat (first | refine blk_drewN ?_ _ | refine blk_drew ?_ | refine blk_alloc ?_ _)); refine blk_put (cs := #[.int .i64 0, .int .i64 0]) ?_ 0 _ rfl; (with_reducible repeat (first | refine blk_drewN ?_ _ | refine blk_drew ?_ | refine blk_alloc ?_ _)); exact BK402.out) Try.underlying30 rfl (by kernel_rfl)) rfl ?_
   exact ⟨pE, pB⟩
 · rw [if_neg c3] at H
   have c3b0 : (t403 == 0) = false := beq_eq_false_iff_ne.mpr c3
   have c3b1 : (t403 != 0) = true := bne_iff_ne.mpr c3
   simp only [Option.some.injEq, Prod.mk.injEq] at H
   obtain ⟨rfl, rfl⟩ := H
   go_enter Try.func48, Try.ntmps48
   go_wp2_with (first | ((with_reducible refine gate_dst (N := 1) rfl ?_); refine box_event ?hg (N := 1) ?hd (cs := #[.int .i64 a0_0, .int .i64 a0_1, .int .i64 a0_2, .int .i64 a0_3, .slice A0_4 l0_4.length c0_4]) (t := 72) ?hr ?_; (case hd => rfl); (case hg => rfl); (case hr => first | (go_simp; done) | (go_simp; rfl)); intro gb401 hg w16 hbox hb; have n_ := t4 (bz_ pB hb) (hbox) ((by rw [hg]; exact (bs_ pB) : w.heap.size ≤ gb401)) ((by rw [hg]; exact (bs_ pB) : w.heap.size ≤ gb401)); clear HB; obtain ⟨HB, BK401, GW401, GE401⟩ := n_; clear hb hbox hg) | ((with_reducible refine gate_dst (N := 2) rfl ?_); refine box_event ?hg (N := 2) ?hd (cs := #[.int .i64 0, .int .i64 0]) (t := 30) ?hr ?_; (case hd => rfl); (case hg => rfl); (case hr => first | (go_simp; done) | (go_simp; rfl)); intro gb402 hg w17 hbox hb; have n_ := t7 (blk_below (g := gb401) (o := .cells #[.int .i64 a0_0, .int .i64 a0_1, .int .i64 a0_2, .int .i64 a0_3, .slice A0_4 l0_4.length c0_4] 72 (0, 0)) (pK BK401) hb) (bz_ pB hb) (hbox) ((by rw [hg]; exact (bs_ pB) : w.heap.size ≤ gb402)) ((by rw [hg]; exact (bs_ pB) : w.heap.size ≤ gb402)) ((by rw [hg]; exact Nat.ne_of_lt (blk_lt (g := gb401) (o := .cells #[.int .i64 a0_0, .int .i64 a0_1, .int .i64 a0_2, .int .i64 a0_3, .slice A0_4 l0_4.length c0_4] 72 (0, 0)) (pK BK401)) : gb401 ≠ gb402)) ((by rw [hg]; exact Nat.ne_of_gt (blk_lt (g := gb401) (o := .cells #[.int .i64 a0_0, .int .i64 a0_1, .int .i64 a0_2, .int .i64 a0_3, .slice A0_4 l0_4.length c0_4] 72 (0, 0)) (pK BK401)) : gb402 ≠ gb401)); clear BK401 HB; obtain ⟨BK401, HB, BK402, GW402, GE402, NB401_402, NB402_401⟩ := n_; clear hb hbox hg; have hnb18 := NB401_402.out; have hnc18 := NB402_401.out; have hcz19_0 : w17.cell? ⟨gb401, 0, none⟩ = some (.int .i64 a0_0) := (blk_cell BK401.out 0).trans rfl; have hcz19_1 : w17.cell? ⟨gb401, 1, none⟩ = some (.int .i64 a0_1) := (blk_cell BK401.out 1).trans rfl; have hcz19_2 : w17.cell? ⟨gb401, 2, none⟩ = some (.int .i64 a0_2) := (blk_cell BK401.out 2).trans rfl; have hcz19_3 : w17.cell? ⟨gb401, 3, none⟩ = some (.int .i64 a0_3) := (blk_cell BK401.out 3).trans rfl; have hcz19_4 : w17.cell? ⟨gb401, 4, none⟩ = some (.slice A0_4 l0_4.length c0_4) := (blk_cell BK401.out 4).trans rfl; have hfz19_0 := blk_frozen BK401.out 0; have hfz19_1 := blk_frozen BK401.out 1; have hfz19_2 := blk_frozen BK401.out 2; have hfz19_3 := blk_frozen BK401.out 3; have hfz19_4 := blk_frozen BK401.out 4) | ((with_reducible refine gC (f := 89) rfl ?_); refine goesL_ (some 4) rfl rfl Try.func89 (by kernel_rfl) rfl #[.pointer (some _)] rfl pA ?_; (refine Calls.mono (spec_l6Fault.calls k a0_0 a0_1 a0_2 a0_3 _ _ l0_4 t403 _ ?side1 ?side2 A2.out (hpp0_0 := by first | (with_unfolding_all assumption) | (dsimp only; assumption) | (dsimp only [Nat.zero_add]; exact (blk_cell (Aside0.out (by assumption)) _).trans rfl) | (go_simp; done)) (hpp0_1 := by first | (with_unfolding_all assumption) | (dsimp only; assumption) | (dsimp only [Nat.zero_add]; exact (blk_cell (Aside0.out (by assumption)) _).trans rfl) | (go_simp; done)) (hpp0_2 := by first | (with_unfolding_all assumption) | (dsimp only; assumption) | (dsimp only [Nat.zero_add]; exact (blk_cell (Aside0.out (by assumption)) _).trans rfl) | (go_simp; done)) (hpp0_3 := by first | (with_unfolding_all assumption) | (dsimp only; assumption) | (dsimp only [Nat.zero_add]; exact (blk_cell (Aside0.out (by assumption)) _).trans rfl) | (go_simp; done)) (hpp0_4 := by first | (with_unfolding_all assumption) | (dsimp only; assumption) | (dsimp only [Nat.zero_add]; exact (blk_cell (Aside0.out (by assumption)) _).trans rfl) | (go_simp; done))) ?_); (case side1 => exact pC (Kd.C_below HR0_4.out HB.out)); (case side2 => exact HC0_4.out); rintro e w20 ⟨rfl, hb⟩; refine ⟨_, rfl, ?_⟩; have n_ := t3 (blk_below (g := gb401) (o := .cells #[.int .i64 a0_0, .int .i64 a0_1, .int .i64 a0_2, .int .i64 a0_3, .slice A0_4 l0_4.length c0_4] 72 (0, 0)) (pK BK401) hb) (blk_below (g := gb402) (o := .cells #[.int .i64 0, .int .i64 0] 30 (0, 0)) (pK BK402) hb) (bz_ pB hb); clear BK401 BK402 HB; obtain ⟨BK401, BK402, HB⟩ := n_; (try clear hb); have hcz21_0 : w20.cell? ⟨gb402, 0, none⟩ = some (.int .i64 0) := (blk_cell BK402.out 0).trans rfl; have hcz21_1 : w20.cell? ⟨gb402, 1, none⟩ = some (.int .i64 0) := (blk_cell BK402.out 1).trans rfl; have hfz21_0 := blk_frozen BK402.out 0; have hfz21_1 := blk_frozen BK402.out 1))
   refine bodyPost_ret (results_cell_row rfl _ _ gb402 30 #[.int .i64 t403, .int .i64 0] (0, 0) _ rfl (by (with_reducible repeat (first | refine blk_drewN ?_ _ | refine blk_drew ?_ | refine blk_alloc ?_ _)); refine blk_put (cs := #[.int .i64 t403, .int .i64 0]) ?_ 1 _ rfl; (with_reducible repeat (first | refine blk_drewN ?_ _ | refine blk_drew ?_ | refine blk_alloc ?_ _)); refine blk_put (cs := #[.int .i64 0, .int .i64 0]) ?_ 0 _ rfl; (with_reducible repeat (first | refine blk_drewN ?_ _ | refine blk_drew ?_ | refine blk_alloc ?_ _)); exact BK402.out) Try.underlying30 rfl (by kernel_rfl)) rfl ?_
   exact ⟨pE, pB⟩
def impl_in.f (a0 : Int) (a1 : Int) (a2 : Int) : Option (Bool) := if a0 ≥ a1 then (some (decide (a0 ≤ a2))) else (some false)
theorem impl_in.calls (a0 : Int) (a1 : Int) (a2 : Int) (r : Bool) (w : World) (h : impl_in.f a0 a1 a2 = some r) :
 Calls Try.prog 57 #[.int .i64 a0, .int .i64 a1, .int .i64 a2] w fun e w' => e = .returned (.bool r) ∧ Drawn0 w w' := by
 have H : (if a0 ≥ a1 then (some (decide (a0 ≤ a2))) else (some false)) = some r := h
 clear h
 by_cases c4 : a0 ≥ a1
 · rw [if_pos c4] at H
   have c4b0 : decide (a1 ≤ a0) = true := dt c4
   clear c4
   obtain rfl := sj H
   go_enter Try.func57, Try.ntmps57
   go_wp2
   go_ret
   exact ⟨by first | rfl | (simp; done) | (simp [*]; done), pW⟩
 · rw [if_neg c4] at H
   have c4b0 : decide (a1 ≤ a0) = false := decide_eq_false c4
   clear c4
   obtain rfl := sj H
   go_enter Try.func57, Try.ntmps57
   go_wp2
   go_ret
   exact ⟨by first | rfl | (simp; done) | (simp [*]; done), pW⟩
def impl_isSum.f (a0 : Int) : Option (Bool) := (impl_in.f a0 0 2147483646).bind fun t408 => (some t408)
theorem impl_isSum.calls (a0 : Int) (r : Bool) (w : World) (h : impl_isSum.f a0 = some r) :
 Calls Try.prog 91 #[.int .i64 a0] w fun e w' => e = .returned (.bool r) ∧ Drawn0 w w' := by
 have H : ((impl_in.f a0 0 2147483646).bind fun t408 => (some t408)) = some r := h
 clear h
 obtain ⟨t408, A20, H⟩ := bO H
 replace H : (some t408) = some r := H
 have A2 := am A20; clear A20
 obtain rfl := sj H
 go_enter Try.func91, Try.ntmps91
 go_wp2_with (first | ((with_reducible refine gC (f := 57) rfl ?_); refine goesL_ (some 4) rfl rfl Try.func57 (by kernel_rfl) rfl #[.int .i64 a0, .int .i64 0, .int .i64 2147483646] rfl pA ?_; (with_reducible refine (impl_in.calls a0 0 2147483646 t408 _ A2.out).mono ?_); rintro e w' ⟨rfl, ⟨nd, rfl⟩⟩; refine ⟨_, rfl, ?_⟩))
 go_ret
 exact ⟨by first | rfl | (simp; done) | (simp [*]; done), pW⟩
-- NOT PRINTED: function 141 (slices_IndexFunc_int64_int64)
-- NOT PRINTED: function 107 (slices_ContainsFunc_int64_int64)
def impl_badCell.f (a0 : Int) : Option (Bool) := (impl_in.f a0 0 9999).bind fun t409 => (some (!t409))
theorem impl_badCell.calls (a0 : Int) (r : Bool) (w : World) (h : impl_badCell.f a0 = some r) :
 Calls Try.prog 108 #[.int .i64 a0] w fun e w' => e = .returned (.bool r) ∧ Drawn0 w w' := by
 have H : ((impl_in.f a0 0 9999).bind fun t409 => (some (!t409))) = some r := h
 clear h
 obtain ⟨t409, A20, H⟩ := bO H
 replace H : (some (!t409)) = some r := H
 have A2 := am A20; clear A20
 obtain rfl := sj H
 go_enter Try.func108, Try.ntmps108
 go_wp2_with (first | ((with_reducible refine gC (f := 57) rfl ?_); refine goesL_ (some 4) rfl rfl Try.func57 (by kernel_rfl) rfl #[.int .i64 a0, .int .i64 0, .int .i64 9999] rfl pA ?_; (with_reducible refine (impl_in.calls a0 0 9999 t409 _ A2.out).mono ?_); rintro e w' ⟨rfl, ⟨nd, rfl⟩⟩; refine ⟨_, rfl, ?_⟩))
 go_ret
 exact ⟨by first | rfl | (simp; done) | (simp [*]; done), pW⟩
-- NOT PRINTED: function 142 (impl_In_142)
-- NOT PRINTED: function 109 (impl_In_109)
-- NOT PRINTED: function 110 (impl_inFault_1)
def impl_inFault_1_in.f (a0_0 : Int) (a0_1 : Int) (l0_2 : List Int) (l1 : List (S34)) : Option (Bool) := if 0 < (l1.length : Int) then (if ((rd_T34 l1 0).f0) = a0_0 then (some (((rd_T34 l1 0).f1) == a0_1)) else (some false)) else (none)
theorem impl_inFault_1_in.calls (a0_0 : Int) (a0_1 : Int) (A0_2 : Option Addr) (c0_2 : Nat) (l0_2 : List Int) (A1 : Option Addr) (c1 : Nat) (l1 : List (S34)) (r : Bool) (w : World) (hr0_2 : Kd.C (Kd.int .i64) w A0_2 l0_2.length l0_2) (hc0_2 : l0_2.length ≤ c0_2) (hr1 : Kd.C k34 w A1 l1.length l1) (hc1 : l1.length ≤ c1) (h : impl_inFault_1_in.f a0_0 a0_1 l0_2 l1 = some r) :
 Calls Try.prog 110 #[.agg #[.int .i64 a0_0, .int .i64 a0_1, .slice A0_2 l0_2.length c0_2], .pointer A1] w fun e w' => e = .returned (.bool r) ∧ Below w.heap.size w w' := by
 have hu34 := Try.underlying34
 have HR0_2 := am hr0_2; have HC0_2 := am hc0_2; clear hr0_2 hc0_2; have HR1 := am hr1; have HC1 := am hc1; clear hr1 hc1
 have HB := am (Below.refl w.heap.size w)
 have H : (if 0 < (l1.length : Int) then (if ((rd_T34 l1 0).f0) = a0_0 then (some (((rd_T34 l1 0).f1) == a0_1)) else (some false)) else (none)) = some r := h
 clear h
 by_cases c3 : 0 < (l1.length : Int)
 · rw [if_pos c3] at H
   have c3b0 : decide (0 < (l1.length : Int)) = true := dt c3
   have c3b1 : decide (0 < l1.length) = true := dt (by omega)
   clear c3
   by_cases c4 : ((rd_T34 l1 0).f0) = a0_0
   · rw [if_pos c4] at H
     have c4b0 : (((rd_T34 l1 0).f0) == a0_0) = true := beq_iff_eq.mpr c4
     have c4b1 : (((rd_T34 l1 0).f0) != a0_0) = false := bne_eq_false_iff_eq.mpr c4
     clear c4
     obtain rfl := sj H
     go_enter Try.func110, Try.ntmps110
     go_wp2_with (first | ((with_reducible refine gate_dst (N := 2) rfl ?_); refine box_event ?hg (N := 2) ?hd (cs := #[.int .i64 a0_0, .int .i64 a0_1, .slice A0_2 l0_2.length c0_2]) (t := 34) ?hr ?_; (case hd => rfl); (case hg => rfl); (case hr => first | (go_simp; done) | (go_simp; rfl)); intro gb411 hg w5 hbox hb; have n_ := t4 (bz_ pB hb) (hbox) ((by rw [hg]; exact (bs_ pB) : w.heap.size ≤ gb411)) ((by rw [hg]; exact (bs_ pB) : w.heap.size ≤ gb411)); clear HB; obtain ⟨HB, BK411, GW411, GE411⟩ := n_; clear hb hbox hg; have p412 : 0 ≤ (0 : Int) := (by omega); have q412 : 0 < (l1.length : Int) := pD; obtain ⟨ad412, A412_2, c412_2, e412, hx412_0, hx412_1, hx412_2, hl412_2, hi412_2⟩ := at_T34 HR1.out 0 p412 q412; cases e412; have qi412 : (0 < l1.length) = True := eq_true (by omega); (try rw [show ((0 : Int)).toNat = 0 from rfl] at hx412_0); (try rw [show 0 * 3 = 0 from rfl] at hx412_0); (try rw [Addr.add_zero'] at hx412_0); (try rw [show ((0 : Int)).toNat = 0 from rfl] at hx412_1); (try rw [show 0 * 3 = 0 from rfl] at hx412_1); (try rw [Addr.add_zero'] at hx412_1); (try rw [show ((0 : Int)).toNat = 0 from rfl] at hx412_2); (try rw [show 0 * 3 = 0 from rfl] at hx412_2); (try rw [Addr.add_zero'] at hx412_2); replace hx412_0 := cb HB hx412_0; replace hx412_1 := cb HB hx412_1; replace hx412_2 := cb HB hx412_2; have HR412_2 := am hi412_2; have HC412_2 := am hl412_2; clear hi412_2 hl412_2; replace p412 := eq_true p412; replace q412 := eq_true q412; have hcz6_0 : w5.cell? ⟨gb411, 0, none⟩ = some (.int .i64 a0_0) := (blk_cell BK411.out 0).trans rfl; have hcz6_1 : w5.cell? ⟨gb411, 1, none⟩ = some (.int .i64 a0_1) := (blk_cell BK411.out 1).trans rfl; have hcz6_2 : w5.cell? ⟨gb411, 2, none⟩ = some (.slice A0_2 l0_2.length c0_2) := (blk_cell BK411.out 2).trans rfl; have hfz6_0 := blk_frozen BK411.out 0; have hfz6_1 := blk_frozen BK411.out 1; have hfz6_2 := blk_frozen BK411.out 2; have p413 : 0 ≤ (0 : Int) := (by omega); have q413 : 0 < (l1.length : Int) := pD; obtain ⟨ad413, A413_2, c413_2, e413, hx413_0, hx413_1, hx413_2, hl413_2, hi413_2⟩ := at_T34 HR1.out 0 p413 q413; obtain rfl : ad412 = ad413 := (by injection e413); have qi413 : (0 < l1.length) = True := eq_true (by omega); (try rw [show ((0 : Int)).toNat = 0 from rfl] at hx413_0); (try rw [show 0 * 3 = 0 from rfl] at hx413_0); (try rw [Addr.add_zero'] at hx413_0); (try rw [show ((0 : Int)).toNat = 0 from rfl] at hx413_1); (try rw [show 0 * 3 = 0 from rfl] at hx413_1); (try rw [Addr.add_zero'] at hx413_1); (try rw [show ((0 : Int)).toNat = 0 from rfl] at hx413_2); (try rw [show 0 * 3 = 0 from rfl] at hx413_2); (try rw [Addr.add_zero'] at hx413_2); replace hx413_0 := cb HB hx413_0; replace hx413_1 := cb HB hx413_1; replace hx413_2 := cb HB hx413_2; have HR413_2 := am hi413_2; have HC413_2 := am hl413_2; clear hi413_2 hl413_2; replace p413 := eq_true p413; replace q413 := eq_true q413; have ea_ := sj (hx412_2.symm.trans hx413_2); injection ea_ with ea_ en_ ec_; subst ea_; subst ec_; clear en_))
     go_ret
     exact ⟨pE, pB⟩
   · rw [if_neg c4] at H
     have c4b0 : (((rd_T34 l1 0).f0) == a0_0) = false := beq_eq_false_iff_ne.mpr c4
     have c4b1 : (((rd_T34 l1 0).f0) != a0_0) = true := bne_iff_ne.mpr c4
     obtain rfl := sj H
     go_enter Try.func110, Try.ntmps110
     go_wp2_with (first | ((with_reducible refine gate_dst (N := 2) rfl ?_); refine box_event ?hg (N := 2) ?hd (cs := #[.int .i64 a0_0, .int .i64 a0_1, .slice A0_2 l0_2.length c0_2]) (t := 34) ?hr ?_; (case hd => rfl); (case hg => rfl); (case hr => first | (go_simp; done) | (go_simp; rfl)); intro gb411 hg w7 hbox hb; have n_ := t4 (bz_ pB hb) (hbox) ((by rw [hg]; exact (bs_ pB) : w.heap.size ≤ gb411)) ((by rw [hg]; exact (bs_ pB) : w.heap.size ≤ gb411)); clear HB; obtain ⟨HB, BK411, GW411, GE411⟩ := n_; clear hb hbox hg; have p412 : 0 ≤ (0 : Int) := (by omega); have q412 : 0 < (l1.length : Int) := pD; obtain ⟨ad412, A412_2, c412_2, e412, hx412_0, hx412_1, hx412_2, hl412_2, hi412_2⟩ := at_T34 HR1.out 0 p412 q412; cases e412; have qi412 : (0 < l1.length) = True := eq_true (by omega); (try rw [show ((0 : Int)).toNat = 0 from rfl] at hx412_0); (try rw [show 0 * 3 = 0 from rfl] at hx412_0); (try rw [Addr.add_zero'] at hx412_0); (try rw [show ((0 : Int)).toNat = 0 from rfl] at hx412_1); (try rw [show 0 * 3 = 0 from rfl] at hx412_1); (try rw [Addr.add_zero'] at hx412_1); (try rw [show ((0 : Int)).toNat = 0 from rfl] at hx412_2); (try rw [show 0 * 3 = 0 from rfl] at hx412_2); (try rw [Addr.add_zero'] at hx412_2); replace hx412_0 := cb HB hx412_0; replace hx412_1 := cb HB hx412_1; replace hx412_2 := cb HB hx412_2; have HR412_2 := am hi412_2; have HC412_2 := am hl412_2; clear hi412_2 hl412_2; replace p412 := eq_true p412; replace q412 := eq_true q412; have hcz8_0 : w7.cell? ⟨gb411, 0, none⟩ = some (.int .i64 a0_0) := (blk_cell BK411.out 0).trans rfl; have hcz8_1 : w7.cell? ⟨gb411, 1, none⟩ = some (.int .i64 a0_1) := (blk_cell BK411.out 1).trans rfl; have hcz8_2 : w7.cell? ⟨gb411, 2, none⟩ = some (.slice A0_2 l0_2.length c0_2) := (blk_cell BK411.out 2).trans rfl; have hfz8_0 := blk_frozen BK411.out 0; have hfz8_1 := blk_frozen BK411.out 1; have hfz8_2 := blk_frozen BK411.out 2))
     go_ret
     exact ⟨pE, pB⟩
 · rw [if_neg c3] at H
   exact absurd H (by simp)
def impl_IndexFunc_at_impl_inFault_1_in.l0 : Nat → List (S34) → List (S34) → Int → Int → Option (Int)
 | 0, _, _, _, _ => none
 | k + 1, x0, x1, x7, x8 => if x8 < x7 then (if 0 ≤ x8 then (if x8 < (x0.length : Int) then ((impl_inFault_1_in.f ((rd_T34 x0 x8).f0) ((rd_T34 x0 x8).f1) ((rd_T34 x0 x8).f2) x1).bind fun t415 => (if t415 = true then (some x8) else (impl_IndexFunc_at_impl_inFault_1_in.l0 k x0 x1 x7 (wrap64 (x8 + 1))))) else (none)) else (none)) else (some (-1))
def impl_IndexFunc_at_impl_inFault_1_in.f (k : Nat) (l0 : List (S34)) (l1 : List (S34)) : Option (Int) := impl_IndexFunc_at_impl_inFault_1_in.l0 k l0 l1 (l0.length : Int) 0
theorem impl_IndexFunc_at_impl_inFault_1_in.mono_l : ∀ k, (∀ y0 y1 y2 y3, LeO (impl_IndexFunc_at_impl_inFault_1_in.l0 k y0 y1 y2 y3) (impl_IndexFunc_at_impl_inFault_1_in.l0 (k + 1) y0 y1 y2 y3))
 | 0 => fun _ _ _ _ r h => by simp [impl_IndexFunc_at_impl_inFault_1_in.l0] at h
 | k + 1 => by
  have ih0 := impl_IndexFunc_at_impl_inFault_1_in.mono_l k
  · intro y0 y1 y2 y3
    unfold impl_IndexFunc_at_impl_inFault_1_in.l0
    repeat' with_reducible first | exact ih0 _ _ _ _ | exact LeO.refl _ | exact LeO.none _ | refine LeO.ite ?_ ?_ | refine LeO.bind ?_ (fun _ => ?_)
theorem impl_IndexFunc_at_impl_inFault_1_in.mono : ∀ a0 a1 k, LeO (impl_IndexFunc_at_impl_inFault_1_in.f k a0 a1) (impl_IndexFunc_at_impl_inFault_1_in.f (k + 1) a0 a1) := by
 intro a0 a1 k
 have ih0 := impl_IndexFunc_at_impl_inFault_1_in.mono_l k
 unfold impl_IndexFunc_at_impl_inFault_1_in.f
 repeat' with_reducible first | exact ih0 _ _ _ _ | exact LeO.refl _ | exact LeO.none _ | refine LeO.ite ?_ ?_ | refine LeO.bind ?_ (fun _ => ?_)
theorem impl_IndexFunc_at_impl_inFault_1_in.calls (k : Nat) (A0 : Option Addr) (c0 : Nat) (l0 : List (S34)) (A1 : Option Addr) (c1 : Nat) (l1 : List (S34)) (r : Int) (w : World) (hr0 : Kd.C k34 w A0 l0.length l0) (hc0 : l0.length ≤ c0) (hr1 : Kd.C k34 w A1 l1.length l1) (hc1 : l1.length ≤ c1) (h : impl_IndexFunc_at_impl_inFault_1_in.f k l0 l1 = some r) :
 Calls Try.prog 142 #[.slice A0 l0.length c0, .func (.func 110) #[] #[.pointer A1]] w fun e w' => e = .returned (.int .i64 r) ∧ Below w.heap.size w w' := by
 have hu34 := Try.underlying34
 have HR0 := am hr0; have HC0 := am hc0; clear hr0 hc0; have HR1 := am hr1; have HC1 := am hc1; clear hr1 hc1
 have HB := am (Below.refl w.heap.size w)
 have H : (impl_IndexFunc_at_impl_inFault_1_in.l0 k l0 l1 (l0.length : Int) 0) = some r := h
 clear h
 have H' := am H
 clear H
 go_enter Try.func142, Try.ntmps142
 go_wp2
 go_loopg [8] k (fun kq v8 w' => ∃ (x8_1 : Int), v8 = .int .i64 x8_1 ∧ Aside0 (impl_IndexFunc_at_impl_inFault_1_in.l0 kq l0 l1 (l0.length : Int) x8_1 = some r) ∧ Aside0 (kq ≤ k) ∧ Aside0 (Below w.heap.size w w'))
 case atStart => exact ⟨(0), pF, H', ⟨Nat.le_refl _⟩, ⟨pB⟩⟩
 case round =>
  clear H'
  (try clear c1)
  obtain ⟨x8_1, rfl, HA, HK1, HB⟩ := hrel
  cases gk with
  | zero => exact absurd HA.out (by simp [impl_IndexFunc_at_impl_inFault_1_in.l0])
  | succ k1 =>
   have H := HA.out
   clear HA
   simp only [impl_IndexFunc_at_impl_inFault_1_in.l0] at H
   by_cases c3 : x8_1 < (l0.length : Int)
   · rw [if_pos c3] at H
     have c3b0 : decide (x8_1 < (l0.length : Int)) = true := dt c3
     clear c3
     by_cases c4 : 0 ≤ x8_1
     · rw [if_pos c4] at H
       have c4b0 : decide (0 ≤ x8_1) = true := dt c4
       clear c4
       by_cases c5 : x8_1 < (l0.length : Int)
       · rw [if_pos c5] at H
         have c5b0 : decide (x8_1 < (l0.length : Int)) = true := dt c5
         clear c5
         obtain ⟨t415, A60, H⟩ := bO H
         replace H : (if t415 = true then (some x8_1) else (impl_IndexFunc_at_impl_inFault_1_in.l0 k1 l0 l1 (l0.length : Int) (wrap64 (x8_1 + 1)))) = some r := H
         have A6 := am A60; clear A60
         by_cases c7 : t415 = true
         · subst c7
           have H1 : (some x8_1) = some r := by rw [if_pos rfl] at H; exact H
           clear H; have H := H1; clear H1
           obtain rfl := sj H
           have p414 : 0 ≤ (x8_1 : Int) := pD
           have q414 : x8_1 < (l0.length : Int) := pD
           obtain ⟨ad414, A414_2, c414_2, e414, hx414_0, hx414_1, hx414_2, hl414_2, hi414_2⟩ := at_T34 HR0.out x8_1 p414 q414
           cases e414; replace hx414_0 := cb HB hx414_0; replace hx414_1 := cb HB hx414_1; replace hx414_2 := cb HB hx414_2; have HR414_2 := am hi414_2; have HC414_2 := am hl414_2; clear hi414_2 hl414_2; replace p414 := eq_true p414; replace q414 := eq_true q414
           go_wp2_with (first | ((with_reducible refine gate_value (x := .tmp 11) rfl ?_); refine goesC_ (some 16) rfl rfl Try.func110 (by kernel_rfl) rfl (x := .tmp 11) rfl #[.agg #[.int .i64 ((rd_T34 l0 x8_1).f0), .int .i64 ((rd_T34 l0 x8_1).f1), .slice A414_2 ((rd_T34 l0 x8_1).f2).length c414_2], .pointer A1] rfl pA ?_; (with_reducible refine (impl_inFault_1_in.calls ((rd_T34 l0 x8_1).f0) ((rd_T34 l0 x8_1).f1) _ _ ((rd_T34 l0 x8_1).f2) _ c1 l1 true _ ?side1 ?side2 ?side3 ?side4 A6.out).mono ?_); (case side1 => exact pC (Kd.C_below HR414_2.out HB.out)); (case side2 => exact HC414_2.out); (case side3 => exact pC (Kd.C_below HR1.out HB.out)); (case side4 => exact HC1.out); rintro e w8 ⟨rfl, hb⟩; refine ⟨_, rfl, ?_⟩; have n_ := am (bz_ pB hb); clear HB; have HB := n_; clear n_; (try clear hb)))
           go_ret
           exact ⟨pE, pB⟩
         · replace c7 := Bool.eq_false_iff.mpr c7
           subst c7
           have H1 : (impl_IndexFunc_at_impl_inFault_1_in.l0 k1 l0 l1 (l0.length : Int) (wrap64 (x8_1 + 1))) = some r := by rw [if_neg (show ¬ (false = true) by decide)] at H; exact H
           clear H; have H := H1; clear H1
           have H' := am H
           clear H
           have p414 : 0 ≤ (x8_1 : Int) := pD
           have q414 : x8_1 < (l0.length : Int) := pD
           obtain ⟨ad414, A414_2, c414_2, e414, hx414_0, hx414_1, hx414_2, hl414_2, hi414_2⟩ := at_T34 HR0.out x8_1 p414 q414
           cases e414; replace hx414_0 := cb HB hx414_0; replace hx414_1 := cb HB hx414_1; replace hx414_2 := cb HB hx414_2; have HR414_2 := am hi414_2; have HC414_2 := am hl414_2; clear hi414_2 hl414_2; replace p414 := eq_true p414; replace q414 := eq_true q414
           go_wp2_with (first | ((with_reducible refine gate_value (x := .tmp 11) rfl ?_); refine goesC_ (some 16) rfl rfl Try.func110 (by kernel_rfl) rfl (x := .tmp 11) rfl #[.agg #[.int .i64 ((rd_T34 l0 x8_1).f0), .int .i64 ((rd_T34 l0 x8_1).f1), .slice A414_2 ((rd_T34 l0 x8_1).f2).length c414_2], .pointer A1] rfl pA ?_; (with_reducible refine (impl_inFault_1_in.calls ((rd_T34 l0 x8_1).f0) ((rd_T34 l0 x8_1).f1) _ _ ((rd_T34 l0 x8_1).f2) _ c1 l1 false _ ?side1 ?side2 ?side3 ?side4 A6.out).mono ?_); (case side1 => exact pC (Kd.C_below HR414_2.out HB.out)); (case side2 => exact HC414_2.out); (case side3 => exact pC (Kd.C_below HR1.out HB.out)); (case side4 => exact HC1.out); rintro e w9 ⟨rfl, hb⟩; refine ⟨_, rfl, ?_⟩; have n_ := am (bz_ pB hb); clear HB; have HB := n_; clear n_; (try clear hb)))
           go_roundg k1
           case measure => have := HK1.out; omega
           case rel => exact ⟨(wrap64 (x8_1 + 1)), pF, H', ⟨by have := HK1.out; omega⟩, ⟨pB⟩⟩
       · rw [if_neg c5] at H
         exact absurd H (by simp)
     · rw [if_neg c4] at H
       exact absurd H (by simp)
   · rw [if_neg c3] at H
     have c3b0 : decide (x8_1 < (l0.length : Int)) = false := decide_eq_false c3
     clear c3
     obtain rfl := sj H
     go_wp2
     go_ret
     exact ⟨pE, pB⟩
def impl_ContainsFunc_at_impl_inFault_1_in.f (k : Nat) (l0 : List (S34)) (l1 : List (S34)) : Option (Bool) := (impl_IndexFunc_at_impl_inFault_1_in.f k l0 l1).bind fun t416 => (some (decide (t416 ≥ 0)))
theorem impl_ContainsFunc_at_impl_inFault_1_in.mono : ∀ a0 a1 k, LeO (impl_ContainsFunc_at_impl_inFault_1_in.f k a0 a1) (impl_ContainsFunc_at_impl_inFault_1_in.f (k + 1) a0 a1) := by
 intro a0 a1 k
 unfold impl_ContainsFunc_at_impl_inFault_1_in.f
 repeat' with_reducible first | exact impl_IndexFunc_at_impl_inFault_1_in.mono _ _ _ | exact LeO.refl _ | exact LeO.none _ | refine LeO.ite ?_ ?_ | refine LeO.bind ?_ (fun _ => ?_)
theorem impl_ContainsFunc_at_impl_inFault_1_in.calls (k : Nat) (A0 : Option Addr) (c0 : Nat) (l0 : List (S34)) (A1 : Option Addr) (c1 : Nat) (l1 : List (S34)) (r : Bool) (w : World) (hr0 : Kd.C k34 w A0 l0.length l0) (hc0 : l0.length ≤ c0) (hr1 : Kd.C k34 w A1 l1.length l1) (hc1 : l1.length ≤ c1) (h : impl_ContainsFunc_at_impl_inFault_1_in.f k l0 l1 = some r) :
 Calls Try.prog 109 #[.slice A0 l0.length c0, .func (.func 110) #[] #[.pointer A1]] w fun e w' => e = .returned (.bool r) ∧ Below w.heap.size w w' := by
 have HR0 := am hr0; have HC0 := am hc0; clear hr0 hc0; have HR1 := am hr1; have HC1 := am hc1; clear hr1 hc1
 have HB := am (Below.refl w.heap.size w)
 have H : ((impl_IndexFunc_at_impl_inFault_1_in.f k l0 l1).bind fun t416 => (some (decide (t416 ≥ 0)))) = some r := h
 clear h
 obtain ⟨t416, A30, H⟩ := bO H
 replace H : (some (decide (t416 ≥ 0))) = some r := H
 have A3 := am A30; clear A30
 obtain rfl := sj H
 go_enter Try.func109, Try.ntmps109
 go_wp2_with (first | ((with_reducible refine gC (f := 142) rfl ?_); refine goesL_ (some 7) rfl rfl Try.func142 (by kernel_rfl) rfl #[.slice A0 l0.length c0, .func (.func 110) #[] #[.pointer A1]] rfl pA ?_; (with_reducible refine (impl_IndexFunc_at_impl_inFault_1_in.calls k _ _ l0 _ c1 l1 t416 _ ?side1 ?side2 ?side3 ?side4 A3.out).mono ?_); (case side1 => exact pC HR0.out); (case side2 => exact HC0.out); (case side3 => exact pC HR1.out); (case side4 => exact HC1.out); rintro e w4 ⟨rfl, hb⟩; refine ⟨_, rfl, ?_⟩; have n_ := am (bz_ pB hb); clear HB; have HB := n_; clear n_; (try clear hb)))
 go_ret
 exact ⟨pE, pB⟩
def impl_ContainsFunc_at_impl_inFault_1.f (k : Nat) (l0 : List (S34)) (a1_0 : Int) (a1_1 : Int) (l1_2 : List Int) : Option (Bool) := impl_ContainsFunc_at_impl_inFault_1_in.f k l0 [(⟨a1_0, a1_1, l1_2⟩ : S34)]
theorem impl_ContainsFunc_at_impl_inFault_1.mono : ∀ (l0 : List (S34)) (a1_0 : Int) (a1_1 : Int) (l1_2 : List Int) (k : Nat), LeO (impl_ContainsFunc_at_impl_inFault_1.f k l0 a1_0 a1_1 l1_2) (impl_ContainsFunc_at_impl_inFault_1.f (k + 1) l0 a1_0 a1_1 l1_2) := fun l0 a1_0 a1_1 l1_2 k => impl_ContainsFunc_at_impl_inFault_1_in.mono l0 [(⟨a1_0, a1_1, l1_2⟩ : S34)] k
set_option maxHeartbeats 8000000 in
theorem impl_ContainsFunc_at_impl_inFault_1.calls (k : Nat) (A0 : Option Addr) (c0 : Nat) (l0 : List (S34)) (a1_0 : Int) (a1_1 : Int) (A1_2 : Option Addr) (c1_2 : Nat) (l1_2 : List Int) (r : Bool) (w : World) (hr0 : Kd.C k34 w A0 l0.length l0) (hc0 : l0.length ≤ c0) (hr1_2 : Kd.C (Kd.int .i64) w A1_2 l1_2.length l1_2) (hc1_2 : l1_2.length ≤ c1_2) (h : impl_ContainsFunc_at_impl_inFault_1.f k l0 a1_0 a1_1 l1_2 = some r) {pp1 : Addr} (hpp1_0 : w.cell? pp1 = some (.int .i64 a1_0)) (hpp1_1 : w.cell? ⟨pp1.block, pp1.off + 1, none⟩ = some (.int .i64 a1_1)) (hpp1_2 : w.cell? ⟨pp1.block, pp1.off + 2, none⟩ = some (.slice A1_2 l1_2.length c1_2)) :
 Calls Try.prog 109 #[.slice A0 l0.length c0, .func (.func 110) #[] #[.pointer (some pp1)]] w fun e w' => e = .returned (.bool r) ∧ Below w.heap.size w w' := by
 have o1 : Kd.C k34 w (some pp1) 1 [(⟨a1_0, a1_1, l1_2⟩ : S34)] := by
  refine ⟨rfl, by decide, fun _ => ⟨pp1, rfl, fun j p hj => ?_⟩⟩
  cases j with
  | succ j => simp at hj
  | zero =>
   obtain rfl : (⟨a1_0, a1_1, l1_2⟩ : S34) = p := by simpa using hj
   refine ⟨_, rfl, k34_mk w _ hc1_2 hr1_2, fun i u hu => ?_⟩
   match i, hu with
   | 0, hu => obtain rfl := sj hu; exact hpp1_0
   | 1, hu => obtain rfl := sj hu; exact hpp1_1
   | 2, hu => obtain rfl := sj hu; exact hpp1_2
 exact impl_ContainsFunc_at_impl_inFault_1_in.calls k A0 c0 l0 (some pp1) 1 [(⟨a1_0, a1_1, l1_2⟩ : S34)] r w hr0 hc0 o1 (Nat.le_refl 1) h
def slices_IndexFunc_at_impl_badCell.l0 : Nat → List Int → Int → Int → Option (Int)
 | 0, _, _, _ => none
 | k + 1, x0, x7, x8 => if x8 < x7 then (if 0 ≤ x8 then (if x8 < (x0.length : Int) then ((impl_badCell.f (rd x0 x8)).bind fun t418 => (if t418 = true then (some x8) else (slices_IndexFunc_at_impl_badCell.l0 k x0 x7 (wrap64 (x8 + 1))))) else (none)) else (none)) else (some (-1))
def slices_IndexFunc_at_impl_badCell.f (k : Nat) (l0 : List Int) : Option (Int) := slices_IndexFunc_at_impl_badCell.l0 k l0 (l0.length : Int) 0
theorem slices_IndexFunc_at_impl_badCell.mono_l : ∀ k, (∀ y0 y1 y2, LeO (slices_IndexFunc_at_impl_badCell.l0 k y0 y1 y2) (slices_IndexFunc_at_impl_badCell.l0 (k + 1) y0 y1 y2))
 | 0 => fun _ _ _ r h => by simp [slices_IndexFunc_at_impl_badCell.l0] at h
 | k + 1 => by
  have ih0 := slices_IndexFunc_at_impl_badCell.mono_l k
  · intro y0 y1 y2
    unfold slices_IndexFunc_at_impl_badCell.l0
    repeat' with_reducible first | exact ih0 _ _ _ | exact LeO.refl _ | exact LeO.none _ | refine LeO.ite ?_ ?_ | refine LeO.bind ?_ (fun _ => ?_)
theorem slices_IndexFunc_at_impl_badCell.mono : ∀ a0 k, LeO (slices_IndexFunc_at_impl_badCell.f k a0) (slices_IndexFunc_at_impl_badCell.f (k + 1) a0) := by
 intro a0 k
 have ih0 := slices_IndexFunc_at_impl_badCell.mono_l k
 unfold slices_IndexFunc_at_impl_badCell.f
 repeat' with_reducible first | exact ih0 _ _ _ | exact LeO.refl _ | exact LeO.none _ | refine LeO.ite ?_ ?_ | refine LeO.bind ?_ (fun _ => ?_)
theorem slices_IndexFunc_at_impl_badCell.calls (k : Nat) (A0 : Option Addr) (c0 : Nat) (l0 : List Int) (r : Int) (w : World) (hr0 : Kd.C (Kd.int .i64) w A0 l0.length l0) (hc0 : l0.length ≤ c0) (h : slices_IndexFunc_at_impl_badCell.f k l0 = some r) :
 Calls Try.prog 141 #[.slice A0 l0.length c0, .func (.func 108) #[] #[]] w fun e w' => e = .returned (.int .i64 r) ∧ Drawn0 w w' := by
 have HR0 := am hr0; have HC0 := am hc0; clear hr0 hc0
 have H : (slices_IndexFunc_at_impl_badCell.l0 k l0 (l0.length : Int) 0) = some r := h
 clear h
 have H' := am H
 clear H
 go_enter Try.func141, Try.ntmps141
 go_wp2
 go_loopg [8] k (fun kq v8 w' => ∃ (x8_1 : Int), v8 = .int .i64 x8_1 ∧ Aside0 (slices_IndexFunc_at_impl_badCell.l0 kq l0 (l0.length : Int) x8_1 = some r) ∧ Aside0 (kq ≤ k) ∧ Drawn0 w w')
 case atStart => exact ⟨(0), pF, H', ⟨Nat.le_refl _⟩, pW⟩
 case round =>
  clear H'
  obtain ⟨x8_1, rfl, HA, HK1, ⟨m1, rfl⟩⟩ := hrel
  cases gk with
  | zero => exact absurd HA.out (by simp [slices_IndexFunc_at_impl_badCell.l0])
  | succ k1 =>
   have H := HA.out
   clear HA
   simp only [slices_IndexFunc_at_impl_badCell.l0] at H
   by_cases c2 : x8_1 < (l0.length : Int)
   · rw [if_pos c2] at H
     have c2b0 : decide (x8_1 < (l0.length : Int)) = true := dt c2
     clear c2
     by_cases c3 : 0 ≤ x8_1
     · rw [if_pos c3] at H
       have c3b0 : decide (0 ≤ x8_1) = true := dt c3
       clear c3
       by_cases c4 : x8_1 < (l0.length : Int)
       · rw [if_pos c4] at H
         have c4b0 : decide (x8_1 < (l0.length : Int)) = true := dt c4
         clear c4
         obtain ⟨t418, A50, H⟩ := bO H
         replace H : (if t418 = true then (some x8_1) else (slices_IndexFunc_at_impl_badCell.l0 k1 l0 (l0.length : Int) (wrap64 (x8_1 + 1)))) = some r := H
         have A5 := am A50; clear A50
         by_cases c6 : t418 = true
         · subst c6
           have H1 : (some x8_1) = some r := by rw [if_pos rfl] at H; exact H
           clear H; have H := H1; clear H1
           obtain rfl := sj H
           have p417 : 0 ≤ (x8_1 : Int) := pD
           have q417 : x8_1 < (l0.length : Int) := pD
           obtain ⟨ad417, e417, hx417_0⟩ := Kd.at_int HR0.out x8_1 p417 q417
           cases e417; replace p417 := eq_true p417; replace q417 := eq_true q417
           go_wp2_with (first | ((with_reducible refine gate_value (x := .tmp 11) rfl ?_); refine goesV_ (some 16) rfl rfl Try.func108 (by kernel_rfl) rfl (x := .tmp 11) rfl #[.int .i64 (rd l0 x8_1)] rfl pA ?_; (with_reducible refine (impl_badCell.calls (rd l0 x8_1) true _ A5.out).mono ?_); rintro e w' ⟨rfl, ⟨nd, rfl⟩⟩; refine ⟨_, rfl, ?_⟩))
           go_ret
           exact ⟨by first | rfl | (simp; done) | (simp [*]; done), pW⟩
         · replace c6 := Bool.eq_false_iff.mpr c6
           subst c6
           have H1 : (slices_IndexFunc_at_impl_badCell.l0 k1 l0 (l0.length : Int) (wrap64 (x8_1 + 1))) = some r := by rw [if_neg (show ¬ (false = true) by decide)] at H; exact H
           clear H; have H := H1; clear H1
           have H' := am H
           clear H
           have p417 : 0 ≤ (x8_1 : Int) := pD
           have q417 : x8_1 < (l0.length : Int) := pD
           obtain ⟨ad417, e417, hx417_0⟩ := Kd.at_int HR0.out x8_1 p417 q417
           cases e417; replace p417 := eq_true p417; replace q417 := eq_true q417
           go_wp2_with (first | ((with_reducible refine gate_value (x := .tmp 11) rfl ?_); refine goesV_ (some 16) rfl rfl Try.func108 (by kernel_rfl) rfl (x := .tmp 11) rfl #[.int .i64 (rd l0 x8_1)] rfl pA ?_; (with_reducible refine (impl_badCell.calls (rd l0 x8_1) false _ A5.out).mono ?_); rintro e w' ⟨rfl, ⟨nd, rfl⟩⟩; refine ⟨_, rfl, ?_⟩))
           go_roundg k1
           case measure => have := HK1.out; omega
           case rel => exact ⟨(wrap64 (x8_1 + 1)), pF, H', ⟨by have := HK1.out; omega⟩, pW⟩
       · rw [if_neg c4] at H
         exact absurd H (by simp)
     · rw [if_neg c3] at H
       exact absurd H (by simp)
   · rw [if_neg c2] at H
     have c2b0 : decide (x8_1 < (l0.length : Int)) = false := decide_eq_false c2
     clear c2
     obtain rfl := sj H
     go_wp2
     go_ret
     exact ⟨by first | rfl | (simp; done) | (simp [*]; done), pW⟩
def slices_ContainsFunc_at_impl_badCell.f (k : Nat) (l0 : List Int) : Option (Bool) := (slices_IndexFunc_at_impl_badCell.f k l0).bind fun t419 => (some (decide (t419 ≥ 0)))
theorem slices_ContainsFunc_at_impl_badCell.mono : ∀ a0 k, LeO (slices_ContainsFunc_at_impl_badCell.f k a0) (slices_ContainsFunc_at_impl_badCell.f (k + 1) a0) := by
 intro a0 k
 unfold slices_ContainsFunc_at_impl_badCell.f
 repeat' with_reducible first | exact slices_IndexFunc_at_impl_badCell.mono _ _ | exact LeO.refl _ | exact LeO.none _ | refine LeO.ite ?_ ?_ | refine LeO.bind ?_ (fun _ => ?_)
theorem slices_ContainsFunc_at_impl_badCell.calls (k : Nat) (A0 : Option Addr) (c0 : Nat) (l0 : List Int) (r : Bool) (w : World) (hr0 : Kd.C (Kd.int .i64) w A0 l0.length l0) (hc0 : l0.length ≤ c0) (h : slices_ContainsFunc_at_impl_badCell.f k l0 = some r) :
 Calls Try.prog 107 #[.slice A0 l0.length c0, .func (.func 108) #[] #[]] w fun e w' => e = .returned (.bool r) ∧ Drawn0 w w' := by
 have HR0 := am hr0; have HC0 := am hc0; clear hr0 hc0
 have H : ((slices_IndexFunc_at_impl_badCell.f k l0).bind fun t419 => (some (decide (t419 ≥ 0)))) = some r := h
 clear h
 obtain ⟨t419, A20, H⟩ := bO H
 replace H : (some (decide (t419 ≥ 0))) = some r := H
 have A2 := am A20; clear A20
 obtain rfl := sj H
 go_enter Try.func107, Try.ntmps107
 go_wp2_with (first | ((with_reducible refine gC (f := 141) rfl ?_); refine goesL_ (some 7) rfl rfl Try.func141 (by kernel_rfl) rfl #[.slice A0 l0.length c0, .func (.func 108) #[] #[]] rfl pA ?_; (with_reducible refine (slices_IndexFunc_at_impl_badCell.calls k _ _ l0 t419 _ ?side1 ?side2 A2.out).mono ?_); (case side1 => exact pC HR0.out); (case side2 => exact HC0.out); rintro e w' ⟨rfl, ⟨nd, rfl⟩⟩; refine ⟨_, rfl, ?_⟩))
 go_ret
 exact ⟨by first | rfl | (simp; done) | (simp [*]; done), pW⟩
def impl_inFault.j0 : Nat → List (S34) → Bool → Int → Int → List Int → Option (Int)
 | 0, _, _, _, _, _ => none
 | k + 1, x1, x5, x421000, x421001, x421002 => if x5 = true then (some 3) else (if (x421002.length : Int) > 8 then (some 2) else ((slices_ContainsFunc_at_impl_badCell.f k x421002).bind fun t423 => (if t423 = true then (some 3) else ((impl_ContainsFunc_at_impl_inFault_1.f k x1 x421000 x421001 x421002).bind fun t424 => (if t424 = true then (some 6) else (some 0))))))
def impl_inFault.f (k : Nat) (a0_0 : Int) (a0_1 : Int) (l0_2 : List Int) (l1 : List (S34)) : Option (Int) := (impl_isSum.f a0_0).bind fun t421 => (if t421 = true then ((impl_in.f a0_1 0 3).bind fun t422 => (impl_inFault.j0 k l1 (!t422) a0_0 a0_1 l0_2)) else (impl_inFault.j0 k l1 true a0_0 a0_1 l0_2))
theorem impl_inFault.mono_l : ∀ k, (∀ y0 y1 y2 y3 y4, LeO (impl_inFault.j0 k y0 y1 y2 y3 y4) (impl_inFault.j0 (k + 1) y0 y1 y2 y3 y4))
 | 0 => fun _ _ _ _ _ r h => by simp [impl_inFault.j0] at h
 | k + 1 => by
  have ih0 := impl_inFault.mono_l k
  · intro y0 y1 y2 y3 y4
    unfold impl_inFault.j0
    repeat' with_reducible first | exact ih0 _ _ _ _ _ | exact impl_ContainsFunc_at_impl_inFault_1.mono _ _ _ _ _ | exact slices_ContainsFunc_at_impl_badCell.mono _ _ | exact LeO.refl _ | exact LeO.none _ | refine LeO.ite ?_ ?_ | refine LeO.bind ?_ (fun _ => ?_)
theorem impl_inFault.mono : ∀ a0 a1 a2 a3 k, LeO (impl_inFault.f k a0 a1 a2 a3) (impl_inFault.f (k + 1) a0 a1 a2 a3) := by
 intro a0 a1 a2 a3 k
 have ih0 := impl_inFault.mono_l k
 unfold impl_inFault.f
 repeat' with_reducible first | exact ih0 _ _ _ _ _ | exact impl_ContainsFunc_at_impl_inFault_1.mono _ _ _ _ _ | exact slices_ContainsFunc_at_impl_badCell.mono _ _ | exact LeO.refl _ | exact LeO.none _ | refine LeO.ite ?_ ?_ | refine LeO.bind ?_ (fun _ => ?_)
theorem impl_inFault.calls (k : Nat) (a0_0 : Int) (a0_1 : Int) (A0_2 : Option Addr) (c0_2 : Nat) (l0_2 : List Int) (A1 : Option Addr) (c1 : Nat) (l1 : List (S34)) (r : Int) (w : World) (hr0_2 : Kd.C (Kd.int .i64) w A0_2 l0_2.length l0_2) (hc0_2 : l0_2.length ≤ c0_2) (hr1 : Kd.C k34 w A1 l1.length l1) (hc1 : l1.length ≤ c1) (h : impl_inFault.f k a0_0 a0_1 l0_2 l1 = some r) :
 Calls Try.prog 58 #[.agg #[.int .i64 a0_0, .int .i64 a0_1, .slice A0_2 l0_2.length c0_2], .slice A1 l1.length c1] w fun e w' => e = .returned (.int .i64 r) ∧ Below w.heap.size w w' := by
 have hu34 := Try.underlying34
 have HR0_2 := am hr0_2; have HC0_2 := am hc0_2; clear hr0_2 hc0_2; have HR1 := am hr1; have HC1 := am hc1; clear hr1 hc1
 have HB := am (Below.refl w.heap.size w)
 have H : ((impl_isSum.f a0_0).bind fun t421 => (if t421 = true then ((impl_in.f a0_1 0 3).bind fun t422 => (impl_inFault.j0 k l1 (!t422) a0_0 a0_1 l0_2)) else (impl_inFault.j0 k l1 true a0_0 a0_1 l0_2))) = some r := h
 clear h; have HC3 := am H; clear H
 go_enter Try.func58, Try.ntmps58
 go_upto_region 1 with (first | ((with_reducible refine gate_dst (N := 2) rfl ?_); refine box_event ?hg (N := 2) ?hd (cs := #[.int .i64 a0_0, .int .i64 a0_1, .slice A0_2 l0_2.length c0_2]) (t := 34) ?hr ?_; (case hd => rfl); (case hg => rfl); (case hr => first | (go_simp; done) | (go_simp; rfl)); intro gb420 hg w4 hbox hb; have n_ := t4 (bz_ pB hb) (hbox) ((by rw [hg]; exact (bs_ pB) : w.heap.size ≤ gb420)) ((by rw [hg]; exact (bs_ pB) : w.heap.size ≤ gb420)); clear HB; obtain ⟨HB, BK420, GW420, GE420⟩ := n_; clear hb hbox hg))
 (try simp only [Act.put, List.setIfInBounds_toArray, List.set_cons_zero, List.set_cons_succ])
 go_cut [5] (fun v5 wc => ∃ (kq : Nat) (x5_2 : Bool), v5 = .bool x5_2 ∧ Aside0 (impl_inFault.j0 kq l1 x5_2 a0_0 a0_1 l0_2 = some r) ∧ Aside0 (kq ≤ k) ∧ Aside0 (wc.heap[gb420]? = some (.cells #[.int .i64 a0_0, .int .i64 a0_1, (.slice A0_2 l0_2.length c0_2)] 34 (0, 0))) ∧ Aside0 (Below w.heap.size w wc))
 case first =>
  have H := HC3.out
  clear HC3
  obtain ⟨t421, A50, H⟩ := bO H
  replace H : (if t421 = true then ((impl_in.f a0_1 0 3).bind fun t422 => (impl_inFault.j0 k l1 (!t422) a0_0 a0_1 l0_2)) else (impl_inFault.j0 k l1 true a0_0 a0_1 l0_2)) = some r := H
  have A5 := am A50; clear A50
  by_cases c6 : t421 = true
  · subst c6
    have H1 : ((impl_in.f a0_1 0 3).bind fun t422 => (impl_inFault.j0 k l1 (!t422) a0_0 a0_1 l0_2)) = some r := by rw [if_pos rfl] at H; exact H
    clear H; have H := H1; clear H1
    obtain ⟨t422, A70, H⟩ := bO H
    replace H : (impl_inFault.j0 k l1 (!t422) a0_0 a0_1 l0_2) = some r := H
    have A7 := am A70; clear A70
    have H' := am H
    clear H
    obtain ⟨hcz8_0, hcz8_1, hcz8_2, hfz8_0, hfz8_1, hfz8_2⟩ := bx3 BK420
    go_wp2_with (first | ((with_reducible refine gC (f := 91) rfl ?_); refine goesL_ (some 8) rfl rfl Try.func91 (by kernel_rfl) rfl #[.int .i64 a0_0] rfl pA ?_; (with_reducible refine (impl_isSum.calls a0_0 true _ A5.out).mono ?_); rintro e w' ⟨rfl, ⟨nd, rfl⟩⟩; refine ⟨_, rfl, ?_⟩) | (go_at_call 57; (with_reducible refine (impl_in.calls a0_1 0 3 t422 _ A7.out).mono ?_); rintro e w' ⟨rfl, ⟨nd, rfl⟩⟩))
    go_meet
    case rel => exact ⟨_, (!t422), pF, H', ⟨by first | omega | exact Nat.le_refl _⟩, ⟨(pK BK420)⟩, ⟨pB⟩⟩
  · replace c6 := Bool.eq_false_iff.mpr c6
    subst c6
    have H1 : (impl_inFault.j0 k l1 true a0_0 a0_1 l0_2) = some r := by rw [if_neg (show ¬ (false = true) by decide)] at H; exact H
    clear H; have H := H1; clear H1
    have H' := am H
    clear H
    obtain ⟨hcz9_0, hcz9_1, hcz9_2, hfz9_0, hfz9_1, hfz9_2⟩ := bx3 BK420
    go_wp2_with (first | ((with_reducible refine gC (f := 91) rfl ?_); refine goesL_ (some 8) rfl rfl Try.func91 (by kernel_rfl) rfl #[.int .i64 a0_0] rfl pA ?_; (with_reducible refine (impl_isSum.calls a0_0 false _ A5.out).mono ?_); rintro e w' ⟨rfl, ⟨nd, rfl⟩⟩; refine ⟨_, rfl, ?_⟩))
    go_meet
    case rel => exact ⟨_, (true), pF, H', ⟨by first | omega | exact Nat.le_refl _⟩, ⟨(pK BK420)⟩, ⟨pB⟩⟩
 case rest =>
  clear HC3; (try clear c1)
  obtain ⟨kq, x5_2, rfl, HA, HJ2, BK420, HB⟩ := hcut
  cases kq with
  | zero => exact absurd HA.out (by simp [impl_inFault.j0])
  | succ kj2 =>
   have H := HA.out
   clear HA
   simp only [impl_inFault.j0] at H
   by_cases c10 : x5_2 = true
   · subst c10
     have H1 : (some 3) = some r := by rw [if_pos rfl] at H; exact H
     clear H; have H := H1; clear H1
     obtain rfl := sj H
     go_wp2
     go_ret
     exact ⟨pE, pB⟩
   · replace c10 := Bool.eq_false_iff.mpr c10
     subst c10
     have H1 : (if (l0_2.length : Int) > 8 then (some 2) else ((slices_ContainsFunc_at_impl_badCell.f kj2 l0_2).bind fun t423 => (if t423 = true then (some 3) else ((impl_ContainsFunc_at_impl_inFault_1.f kj2 l1 a0_0 a0_1 l0_2).bind fun t424 => (if t424 = true then (some 6) else (some 0)))))) = some r := by rw [if_neg (show ¬ (false = true) by decide)] at H; exact H
     clear H; have H := H1; clear H1
     by_cases c11 : (l0_2.length : Int) > 8
     · rw [if_pos c11] at H
       have c11b0 : decide (8 < (l0_2.length : Int)) = true := dt c11
       have c11b1 : decide (8 < l0_2.length) = true := dt (by omega)
       clear c11
       obtain rfl := sj H
       obtain ⟨hcz12_0, hcz12_1, hcz12_2, hfz12_0, hfz12_1, hfz12_2⟩ := bx3 BK420
       go_wp2
       go_ret
       exact ⟨pE, pB⟩
     · rw [if_neg c11] at H
       have c11b0 : decide (8 < (l0_2.length : Int)) = false := decide_eq_false c11
       have c11b1 : decide (8 < l0_2.length) = false := decide_eq_false (by omega)
       clear c11
       obtain ⟨t423, A130, H⟩ := bO H
       replace H : (if t423 = true then (some 3) else ((impl_ContainsFunc_at_impl_inFault_1.f kj2 l1 a0_0 a0_1 l0_2).bind fun t424 => (if t424 = true then (some 6) else (some 0)))) = some r := H
       have A13 := am A130; clear A130
       by_cases c14 : t423 = true
       · subst c14
         have H1 : (some 3) = some r := by rw [if_pos rfl] at H; exact H
         clear H; have H := H1; clear H1
         obtain rfl := sj H
         obtain ⟨hcz15_0, hcz15_1, hcz15_2, hfz15_0, hfz15_1, hfz15_2⟩ := bx3 BK420
         go_wp2_with (first | ((with_reducible refine gC (f := 107) rfl ?_); refine goesL_ (some 24) rfl rfl Try.func107 (by kernel_rfl) rfl #[.slice A0_2 l0_2.length c0_2, .func (.func 108) #[] #[]] rfl pA ?_; (with_reducible refine (slices_ContainsFunc_at_impl_badCell.calls kj2 _ _ l0_2 true _ ?side1 ?side2 A13.out).mono ?_); (case side1 => exact pC (Kd.C_below HR0_2.out HB.out)); (case side2 => exact HC0_2.out); rintro e w' ⟨rfl, ⟨nd, rfl⟩⟩; refine ⟨_, rfl, ?_⟩))
         go_ret
         exact ⟨pE, pB⟩
       · replace c14 := Bool.eq_false_iff.mpr c14
         subst c14
         have H1 : ((impl_ContainsFunc_at_impl_inFault_1.f kj2 l1 a0_0 a0_1 l0_2).bind fun t424 => (if t424 = true then (some 6) else (some 0))) = some r := by rw [if_neg (show ¬ (false = true) by decide)] at H; exact H
         clear H; have H := H1; clear H1
         obtain ⟨t424, A160, H⟩ := bO H
         replace H : (if t424 = true then (some 6) else (some 0)) = some r := H
         have A16 := am A160; clear A160
         by_cases c17 : t424 = true
         · subst c17
           have H1 : (some 6) = some r := by rw [if_pos rfl] at H; exact H
           clear H; have H := H1; clear H1
           obtain rfl := sj H
           obtain ⟨hcz18_0, hcz18_1, hcz18_2, hfz18_0, hfz18_1, hfz18_2⟩ := bx3 BK420
           go_wp2_with (first | ((with_reducible refine gC (f := 107) rfl ?_); refine goesL_ (some 24) rfl rfl Try.func107 (by kernel_rfl) rfl #[.slice A0_2 l0_2.length c0_2, .func (.func 108) #[] #[]] rfl pA ?_; (with_reducible refine (slices_ContainsFunc_at_impl_badCell.calls kj2 _ _ l0_2 false _ ?side1 ?side2 A13.out).mono ?_); (case side1 => exact pC (Kd.C_below HR0_2.out HB.out)); (case side2 => exact HC0_2.out); rintro e w' ⟨rfl, ⟨nd, rfl⟩⟩; refine ⟨_, rfl, ?_⟩) | ((with_reducible refine gC (f := 109) rfl ?_); refine goesL_ (some 28) rfl rfl Try.func109 (by kernel_rfl) rfl #[.slice A1 l1.length c1, .func (.func 110) #[] #[.pointer (some _)]] rfl pA ?_; (refine Calls.mono (impl_ContainsFunc_at_impl_inFault_1.calls kj2 _ _ l1 a0_0 a0_1 _ _ l0_2 true _ ?side1 ?side2 ?side3 ?side4 A16.out (hpp1_0 := by first | (with_unfolding_all assumption) | (dsimp only; assumption) | (dsimp only [Nat.zero_add]; exact (blk_cell (Aside0.out (by assumption)) _).trans rfl) | (go_simp; done)) (hpp1_1 := by first | (with_unfolding_all assumption) | (dsimp only; assumption) | (dsimp only [Nat.zero_add]; exact (blk_cell (Aside0.out (by assumption)) _).trans rfl) | (go_simp; done)) (hpp1_2 := by first | (with_unfolding_all assumption) | (dsimp only; assumption) | (dsimp only [Nat.zero_add]; exact (blk_cell (Aside0.out (by assumption)) _).trans rfl) | (go_simp; done))) ?_); (case side1 => exact pC (Kd.C_below HR1.out pB)); (case side2 => exact HC1.out); (case side3 => exact pC (Kd.C_below HR0_2.out pB)); (case side4 => exact HC0_2.out); rintro e w19 ⟨rfl, hb⟩; refine ⟨_, rfl, ?_⟩; have n_ := t2 (blk_below (g := gb420) (o := .cells #[.int .i64 a0_0, .int .i64 a0_1, .slice A0_2 l0_2.length c0_2] 34 (0, 0)) (pK BK420) hb) (bz_ pB hb); clear BK420 HB; obtain ⟨BK420, HB⟩ := n_; (try clear hb)))
           go_ret
           exact ⟨pE, pB⟩
         · replace c17 := Bool.eq_false_iff.mpr c17
           subst c17
           have H1 : (some 0) = some r := by rw [if_neg (show ¬ (false = true) by decide)] at H; exact H
           clear H; have H := H1; clear H1
           obtain rfl := sj H
           obtain ⟨hcz20_0, hcz20_1, hcz20_2, hfz20_0, hfz20_1, hfz20_2⟩ := bx3 BK420
           go_wp2_with (first | ((with_reducible refine gC (f := 107) rfl ?_); refine goesL_ (some 24) rfl rfl Try.func107 (by kernel_rfl) rfl #[.slice A0_2 l0_2.length c0_2, .func (.func 108) #[] #[]] rfl pA ?_; (with_reducible refine (slices_ContainsFunc_at_impl_badCell.calls kj2 _ _ l0_2 false _ ?side1 ?side2 A13.out).mono ?_); (case side1 => exact pC (Kd.C_below HR0_2.out HB.out)); (case side2 => exact HC0_2.out); rintro e w' ⟨rfl, ⟨nd, rfl⟩⟩; refine ⟨_, rfl, ?_⟩) | ((with_reducible refine gC (f := 109) rfl ?_); refine goesL_ (some 28) rfl rfl Try.func109 (by kernel_rfl) rfl #[.slice A1 l1.length c1, .func (.func 110) #[] #[.pointer (some _)]] rfl pA ?_; (refine Calls.mono (impl_ContainsFunc_at_impl_inFault_1.calls kj2 _ _ l1 a0_0 a0_1 _ _ l0_2 false _ ?side1 ?side2 ?side3 ?side4 A16.out (hpp1_0 := by first | (with_unfolding_all assumption) | (dsimp only; assumption) | (dsimp only [Nat.zero_add]; exact (blk_cell (Aside0.out (by assumption)) _).trans rfl) | (go_simp; done)) (hpp1_1 := by first | (with_unfolding_all assumption) | (dsimp only; assumption) | (dsimp only [Nat.zero_add]; exact (blk_cell (Aside0.out (by assumption)) _).trans rfl) | (go_simp; done)) (hpp1_2 := by first | (with_unfolding_all assumption) | (dsimp only; assumption) | (dsimp only [Nat.zero_add]; exact (blk_cell (Aside0.out (by assumption)) _).trans rfl) | (go_simp; done))) ?_); (case side1 => exact pC (Kd.C_below HR1.out pB)); (case side2 => exact HC1.out); (case side3 => exact pC (Kd.C_below HR0_2.out pB)); (case side4 => exact HC0_2.out); rintro e w21 ⟨rfl, hb⟩; refine ⟨_, rfl, ?_⟩; have n_ := t2 (blk_below (g := gb420) (o := .cells #[.int .i64 a0_0, .int .i64 a0_1, .slice A0_2 l0_2.length c0_2] 34 (0, 0)) (pK BK420) hb) (bz_ pB hb); clear BK420 HB; obtain ⟨BK420, HB⟩ := n_; (try clear hb)))
           go_ret
           exact ⟨pE, pB⟩
end Go.Proofs.Ythjlbpgiaehjnaa.QFnExactBlockRoot
