-- written by this session's program (wip/tools/myprint.py)
import Derived.Test.YthjlbpgiaehjnaaQFnExactPackTxx0
-- squeezed
namespace Go.Proofs.Ythjlbpgiaehjnaa.QFnExactPackTx
open Go.RowKit Go.Proofs.YthjlbpgiaehjnaaW.PrintWords Go.Proofs.YthjlbpgiaehjnaaW.PrintLast Go.Proofs.YthjlbpgiaehjnaaW.PrintMore
attribute [local go_sem] max2_int min2_int max_two min_two max_three min_three max_four min_four   -- for this text's walks alone
set_option linter.unusedVariables false
set_option linter.unusedSimpArgs false
set_option maxHeartbeats 8000000
set_option maxRecDepth 100000
def impl_in.f (a0 : Int) (a1 : Int) (a2 : Int) : Option (Bool) := if a0 ≥ a1 then (some (decide (a0 ≤ a2))) else (some false)
theorem impl_in.calls (a0 : Int) (a1 : Int) (a2 : Int) (r : Bool) (w : World) (h : impl_in.f a0 a1 a2 = some r) :
 Calls Try.prog 57 #[.int .i64 a0, .int .i64 a1, .int .i64 a2] w fun e w' => e = .returned (.bool r) ∧ Drawn0 w w' := by
 have H : (if a0 ≥ a1 then (some (decide (a0 ≤ a2))) else (some false)) = some r := h
 clear h
 by_cases c4 : a0 ≥ a1
 · rw [if_pos c4] at H
   have c4b0 : decide (a1 ≤ a0) = true := dt c4
   clear c4
   obtain rfl := sj H
   go_enter Try.func57, Try.ntmps57
   go_wp2
   go_ret
   exact ⟨by first | rfl | (simp; done) | (simp [*]; done), pW⟩
 · rw [if_neg c4] at H
   have c4b0 : decide (a1 ≤ a0) = false := decide_eq_false c4
   clear c4
   obtain rfl := sj H
   go_enter Try.func57, Try.ntmps57
   go_wp2
   go_ret
   exact ⟨by first | rfl | (simp; done) | (simp [*]; done), pW⟩
def impl_isSum.f (a0 : Int) : Option (Bool) := (impl_in.f a0 0 2147483646).bind fun t101 => (some t101)
theorem impl_isSum.calls (a0 : Int) (r : Bool) (w : World) (h : impl_isSum.f a0 = some r) :
 Calls Try.prog 91 #[.int .i64 a0] w fun e w' => e = .returned (.bool r) ∧ Drawn0 w w' := by
 have H : ((impl_in.f a0 0 2147483646).bind fun t101 => (some t101)) = some r := h
 clear h
 obtain ⟨t101, A20, H⟩ := bO H
 replace H : (some t101) = some r := H
 have A2 := am A20; clear A20
 obtain rfl := sj H
 go_enter Try.func91, Try.ntmps91
 go_wp2_with (first | ((with_reducible refine gC (f := 57) rfl ?_); refine goesL_ (some 4) rfl rfl Try.func57 (by kernel_rfl) rfl #[.int .i64 a0, .int .i64 0, .int .i64 2147483646] rfl pA ?_; (with_reducible refine (impl_in.calls a0 0 2147483646 t101 _ A2.out).mono ?_); rintro e w' ⟨rfl, ⟨nd, rfl⟩⟩; refine ⟨_, rfl, ?_⟩))
 go_ret
 exact ⟨by first | rfl | (simp; done) | (simp [*]; done), pW⟩
-- NOT PRINTED: function 141 (slices_IndexFunc_int64_int64)
-- NOT PRINTED: function 107 (slices_ContainsFunc_int64_int64)
def impl_badCell.f (a0 : Int) : Option (Bool) := (impl_in.f a0 0 9999).bind fun t102 => (some (!t102))
theorem impl_badCell.calls (a0 : Int) (r : Bool) (w : World) (h : impl_badCell.f a0 = some r) :
 Calls Try.prog 108 #[.int .i64 a0] w fun e w' => e = .returned (.bool r) ∧ Drawn0 w w' := by
 have H : ((impl_in.f a0 0 9999).bind fun t102 => (some (!t102))) = some r := h
 clear h
 obtain ⟨t102, A20, H⟩ := bO H
 replace H : (some (!t102)) = some r := H
 have A2 := am A20; clear A20
 obtain rfl := sj H
 go_enter Try.func108, Try.ntmps108
 go_wp2_with (first | ((with_reducible refine gC (f := 57) rfl ?_); refine goesL_ (some 4) rfl rfl Try.func57 (by kernel_rfl) rfl #[.int .i64 a0, .int .i64 0, .int .i64 9999] rfl pA ?_; (with_reducible refine (impl_in.calls a0 0 9999 t102 _ A2.out).mono ?_); rintro e w' ⟨rfl, ⟨nd, rfl⟩⟩; refine ⟨_, rfl, ?_⟩))
 go_ret
 exact ⟨by first | rfl | (simp; done) | (simp [*]; done), pW⟩
-- NOT PRINTED: function 142 (impl_In_142)
-- NOT PRINTED: function 109 (impl_In_109)
-- NOT PRINTED: function 110 (impl_inFault_1)
def impl_inFault_1_in.f (a0_0 : Int) (a0_1 : Int) (l0_2 : List Int) (l1 : List (S34)) : Option (Bool) := if 0 < (l1.length : Int) then (if ((rd_T34 l1 0).f0) = a0_0 then (some (((rd_T34 l1 0).f1) == a0_1)) else (some false)) else (none)
theorem impl_inFault_1_in.calls (a0_0 : Int) (a0_1 : Int) (A0_2 : Option Addr) (c0_2 : Nat) (l0_2 : List Int) (A1 : Option Addr) (c1 : Nat) (l1 : List (S34)) (r : Bool) (w : World) (hr0_2 : Kd.C (Kd.int .i64) w A0_2 l0_2.length l0_2) (hc0_2 : l0_2.length ≤ c0_2) (hr1 : Kd.C k34 w A1 l1.length l1) (hc1 : l1.length ≤ c1) (h : impl_inFault_1_in.f a0_0 a0_1 l0_2 l1 = some r) :
 Calls Try.prog 110 #[.agg #[.int .i64 a0_0, .int .i64 a0_1, .slice A0_2 l0_2.length c0_2], .pointer A1] w fun e w' => e = .returned (.bool r) ∧ Below w.heap.size w w' := by
 have hu34 := Try.underlying34
 have HR0_2 := am hr0_2; have HC0_2 := am hc0_2; clear hr0_2 hc0_2; have HR1 := am hr1; have HC1 := am hc1; clear hr1 hc1
 have HB := am (Below.refl w.heap.size w)
 have H : (if 0 < (l1.length : Int) then (if ((rd_T34 l1 0).f0) = a0_0 then (some (((rd_T34 l1 0).f1) == a0_1)) else (some false)) else (none)) = some r := h
 clear h
 by_cases c3 : 0 < (l1.length : Int)
 · rw [if_pos c3] at H
   have c3b0 : decide (0 < (l1.length : Int)) = true := dt c3
   have c3b1 : decide (0 < l1.length) = true := dt (by omega)
   clear c3
   by_cases c4 : ((rd_T34 l1 0).f0) = a0_0
   · rw [if_pos c4] at H
     have c4b0 : (((rd_T34 l1 0).f0) == a0_0) = true := beq_iff_eq.mpr c4
     have c4b1 : (((rd_T34 l1 0).f0) != a0_0) = false := bne_eq_false_iff_eq.mpr c4
     clear c4
     obtain rfl := sj H
     go_enter Try.func110, Try.ntmps110
     go_wp2_with (first | ((with_reducible refine gate_dst (N := 2) rfl ?_); refine box_event ?hg (N := 2) ?hd (cs := #[.int .i64 a0_0, .int .i64 a0_1, .slice A0_2 l0_2.length c0_2]) (t := 34) ?hr ?_; (case hd => rfl); (case hg => rfl); (case hr => first | (go_simp; done) | (go_simp; rfl)); intro gb104 hg w5 hbox hb; have n_ := t4 (bz_ pB hb) (hbox) ((by rw [hg]; exact (bs_ pB) : w.heap.size ≤ gb104)) ((by rw [hg]; exact (bs_ pB) : w.heap.size ≤ gb104)); clear HB; obtain ⟨HB, BK104, GW104, GE104⟩ := n_; clear hb hbox hg; have p105 : 0 ≤ (0 : Int) := (by omega); have q105 : 0 < (l1.length : Int) := pD; obtain ⟨ad105, A105_2, c105_2, e105, hx105_0, hx105_1, hx105_2, hl105_2, hi105_2⟩ := at_T34 HR1.out 0 p105 q105; cases e105; have qi105 : (0 < l1.length) = True := eq_true (by omega); (try rw [show ((0 : Int)).toNat = 0 from rfl] at hx105_0); (try rw [show 0 * 3 = 0 from rfl] at hx105_0); (try rw [Addr.add_zero'] at hx105_0); (try rw [show ((0 : Int)).toNat = 0 from rfl] at hx105_1); (try rw [show 0 * 3 = 0 from rfl] at hx105_1); (try rw [Addr.add_zero'] at hx105_1); (try rw [show ((0 : Int)).toNat = 0 from rfl] at hx105_2); (try rw [show 0 * 3 = 0 from rfl] at hx105_2); (try rw [Addr.add_zero'] at hx105_2); replace hx105_0 := cb HB hx105_0; replace hx105_1 := cb HB hx105_1; replace hx105_2 := cb HB hx105_2; have HR105_2 := am hi105_2; have HC105_2 := am hl105_2; clear hi105_2 hl105_2; replace p105 := eq_true p105; replace q105 := eq_true q105; have hcz6_0 : w5.cell? ⟨gb104, 0, none⟩ = some (.int .i64 a0_0) := (blk_cell BK104.out 0).trans rfl; have hcz6_1 : w5.cell? ⟨gb104, 1, none⟩ = some (.int .i64 a0_1) := (blk_cell BK104.out 1).trans rfl; have hcz6_2 : w5.cell? ⟨gb104, 2, none⟩ = some (.slice A0_2 l0_2.length c0_2) := (blk_cell BK104.out 2).trans rfl; have hfz6_0 := blk_frozen BK104.out 0; have hfz6_1 := blk_frozen BK104.out 1; have hfz6_2 := blk_frozen BK104.out 2; have p106 : 0 ≤ (0 : Int) := (by omega); have q106 : 0 < (l1.length : Int) := pD; obtain ⟨ad106, A106_2, c106_2, e106, hx106_0, hx106_1, hx106_2, hl106_2, hi106_2⟩ := at_T34 HR1.out 0 p106 q106; obtain rfl : ad105 = ad106 := (by injection e106); have qi106 : (0 < l1.length) = True := eq_true (by omega); (try rw [show ((0 : Int)).toNat = 0 from rfl] at hx106_0); (try rw [show 0 * 3 = 0 from rfl] at hx106_0); (try rw [Addr.add_zero'] at hx106_0); (try rw [show ((0 : Int)).toNat = 0 from rfl] at hx106_1); (try rw [show 0 * 3 = 0 from rfl] at hx106_1); (try rw [Addr.add_zero'] at hx106_1); (try rw [show ((0 : Int)).toNat = 0 from rfl] at hx106_2); (try rw [show 0 * 3 = 0 from rfl] at hx106_2); (try rw [Addr.add_zero'] at hx106_2); replace hx106_0 := cb HB hx106_0; replace hx106_1 := cb HB hx106_1; replace hx106_2 := cb HB hx106_2; have HR106_2 := am hi106_2; have HC106_2 := am hl106_2; clear hi106_2 hl106_2; replace p106 := eq_true p106; replace q106 := eq_true q106; have ea_ := sj (hx105_2.symm.trans hx106_2); injection ea_ with ea_ en_ ec_; subst ea_; subst ec_; clear en_))
     go_ret
     exact ⟨pE, pB⟩
   · rw [if_neg c4] at H
     have c4b0 : (((rd_T34 l1 0).f0) == a0_0) = false := beq_eq_false_iff_ne.mpr c4
     have c4b1 : (((rd_T34 l1 0).f0) != a0_0) = true := bne_iff_ne.mpr c4
     obtain rfl := sj H
     go_enter Try.func110, Try.ntmps110
     go_wp2_with (first | ((with_reducible refine gate_dst (N := 2) rfl ?_); refine box_event ?hg (N := 2) ?hd (cs := #[.int .i64 a0_0, .int .i64 a0_1, .slice A0_2 l0_2.length c0_2]) (t := 34) ?hr ?_; (case hd => rfl); (case hg => rfl); (case hr => first | (go_simp; done) | (go_simp; rfl)); intro gb104 hg w7 hbox hb; have n_ := t4 (bz_ pB hb) (hbox) ((by rw [hg]; exact (bs_ pB) : w.heap.size ≤ gb104)) ((by rw [hg]; exact (bs_ pB) : w.heap.size ≤ gb104)); clear HB; obtain ⟨HB, BK104, GW104, GE104⟩ := n_; clear hb hbox hg; have p105 : 0 ≤ (0 : Int) := (by omega); have q105 : 0 < (l1.length : Int) := pD; obtain ⟨ad105, A105_2, c105_2, e105, hx105_0, hx105_1, hx105_2, hl105_2, hi105_2⟩ := at_T34 HR1.out 0 p105 q105; cases e105; have qi105 : (0 < l1.length) = True := eq_true (by omega); (try rw [show ((0 : Int)).toNat = 0 from rfl] at hx105_0); (try rw [show 0 * 3 = 0 from rfl] at hx105_0); (try rw [Addr.add_zero'] at hx105_0); (try rw [show ((0 : Int)).toNat = 0 from rfl] at hx105_1); (try rw [show 0 * 3 = 0 from rfl] at hx105_1); (try rw [Addr.add_zero'] at hx105_1); (try rw [show ((0 : Int)).toNat = 0 from rfl] at hx105_2); (try rw [show 0 * 3 = 0 from rfl] at hx105_2); (try rw [Addr.add_zero'] at hx105_2); replace hx105_0 := cb HB hx105_0; replace hx105_1 := cb HB hx105_1; replace hx105_2 := cb HB hx105_2; have HR105_2 := am hi105_2; have HC105_2 := am hl105_2; clear hi105_2 hl105_2; replace p105 := eq_true p105; replace q105 := eq_true q105; have hcz8_0 : w7.cell? ⟨gb104, 0, none⟩ = some (.int .i64 a0_0) := (blk_cell BK104.out 0).trans rfl; have hcz8_1 : w7.cell? ⟨gb104, 1, none⟩ = some (.int .i64 a0_1) := (blk_cell BK104.out 1).trans rfl; have hcz8_2 : w7.cell? ⟨gb104, 2, none⟩ = some (.slice A0_2 l0_2.length c0_2) := (blk_cell BK104.out 2).trans rfl; have hfz8_0 := blk_frozen BK104.out 0; have hfz8_1 := blk_frozen BK104.out 1; have hfz8_2 := blk_frozen BK104.out 2))
     go_ret
     exact ⟨pE, pB⟩
 · rw [if_neg c3] at H
   exact absurd H (by simp)
def impl_IndexFunc_at_impl_inFault_1_in.l0 : Nat → List (S34) → List (S34) → Int → Int → Option (Int)
 | 0, _, _, _, _ => none
 | k + 1, x0, x1, x7, x8 => if x8 < x7 then (if 0 ≤ x8 then (if x8 < (x0.length : Int) then ((impl_inFault_1_in.f ((rd_T34 x0 x8).f0) ((rd_T34 x0 x8).f1) ((rd_T34 x0 x8).f2) x1).bind fun t108 => (if t108 = true then (some x8) else (impl_IndexFunc_at_impl_inFault_1_in.l0 k x0 x1 x7 (wrap64 (x8 + 1))))) else (none)) else (none)) else (some (-1))
def impl_IndexFunc_at_impl_inFault_1_in.f (k : Nat) (l0 : List (S34)) (l1 : List (S34)) : Option (Int) := impl_IndexFunc_at_impl_inFault_1_in.l0 k l0 l1 (l0.length : Int) 0
theorem impl_IndexFunc_at_impl_inFault_1_in.mono_l : ∀ k, (∀ y0 y1 y2 y3, LeO (impl_IndexFunc_at_impl_inFault_1_in.l0 k y0 y1 y2 y3) (impl_IndexFunc_at_impl_inFault_1_in.l0 (k + 1) y0 y1 y2 y3))
 | 0 => fun _ _ _ _ r h => by simp [impl_IndexFunc_at_impl_inFault_1_in.l0] at h
 | k + 1 => by
  have ih0 := impl_IndexFunc_at_impl_inFault_1_in.mono_l k
  · intro y0 y1 y2 y3
    unfold impl_IndexFunc_at_impl_inFault_1_in.l0
    repeat' with_reducible first | exact ih0 _ _ _ _ | exact LeO.refl _ | exact LeO.none _ | refine LeO.ite ?_ ?_ | refine LeO.bind ?_ (fun _ => ?_)
theorem impl_IndexFunc_at_impl_inFault_1_in.mono : ∀ a0 a1 k, LeO (impl_IndexFunc_at_impl_inFault_1_in.f k a0 a1) (impl_IndexFunc_at_impl_inFault_1_in.f (k + 1) a0 a1) := by
 intro a0 a1 k
 have ih0 := impl_IndexFunc_at_impl_inFault_1_in.mono_l k
 unfold impl_IndexFunc_at_impl_inFault_1_in.f
 repeat' with_reducible first | exact ih0 _ _ _ _ | exact LeO.refl _ | exact LeO.none _ | refine LeO.ite ?_ ?_ | refine LeO.bind ?_ (fun _ => ?_)
theorem impl_IndexFunc_at_impl_inFault_1_in.calls (k : Nat) (A0 : Option Addr) (c0 : Nat) (l0 : List (S34)) (A1 : Option Addr) (c1 : Nat) (l1 : List (S34)) (r : Int) (w : World) (hr0 : Kd.C k34 w A0 l0.length l0) (hc0 : l0.length ≤ c0) (hr1 : Kd.C k34 w A1 l1.length l1) (hc1 : l1.length ≤ c1) (h : impl_IndexFunc_at_impl_inFault_1_in.f k l0 l1 = some r) :
 Calls Try.prog 142 #[.slice A0 l0.length c0, .func (.func 110) #[] #[.pointer A1]] w fun e w' => e = .returned (.int .i64 r) ∧ Below w.heap.size w w' := by
 have hu34 := Try.underlying34
 have HR0 := am hr0; have HC0 := am hc0; clear hr0 hc0; have HR1 := am hr1; have HC1 := am hc1; clear hr1 hc1
 have HB := am (Below.refl w.heap.size w)
 have H : (impl_IndexFunc_at_impl_inFault_1_in.l0 k l0 l1 (l0.length : Int) 0) = some r := h
 clear h
 have H' := am H
 clear H
 go_enter Try.func142, Try.ntmps142
 go_wp2
 go_loopg [8] k (fun kq v8 w' => ∃ (x8_1 : Int), v8 = .int .i64 x8_1 ∧ Aside0 (impl_IndexFunc_at_impl_inFault_1_in.l0 kq l0 l1 (l0.length : Int) x8_1 = some r) ∧ Aside0 (kq ≤ k) ∧ Aside0 (Below w.heap.size w w'))
 case atStart => exact ⟨(0), pF, H', ⟨Nat.le_refl _⟩, ⟨pB⟩⟩
 case round =>
  clear H'
  (try clear c1)
  obtain ⟨x8_1, rfl, HA, HK1, HB⟩ := hrel
  cases gk with
  | zero => exact absurd HA.out (by simp [impl_IndexFunc_at_impl_inFault_1_in.l0])
  | succ k1 =>
   have H := HA.out
   clear HA
   simp only [impl_IndexFunc_at_impl_inFault_1_in.l0] at H
   by_cases c3 : x8_1 < (l0.length : Int)
   · rw [if_pos c3] at H
     have c3b0 : decide (x8_1 < (l0.length : Int)) = true := dt c3
     clear c3
     by_cases c4 : 0 ≤ x8_1
     · rw [if_pos c4] at H
       have c4b0 : decide (0 ≤ x8_1) = true := dt c4
       clear c4
       by_cases c5 : x8_1 < (l0.length : Int)
       · rw [if_pos c5] at H
         have c5b0 : decide (x8_1 < (l0.length : Int)) = true := dt c5
         clear c5
         obtain ⟨t108, A60, H⟩ := bO H
         replace H : (if t108 = true then (some x8_1) else (impl_IndexFunc_at_impl_inFault_1_in.l0 k1 l0 l1 (l0.length : Int) (wrap64 (x8_1 + 1)))) = some r := H
         have A6 := am A60; clear A60
         by_cases c7 : t108 = true
         · subst c7
           have H1 : (some x8_1) = some r := by rw [if_pos rfl] at H; exact H
           clear H; have H := H1; clear H1
           obtain rfl := sj H
           have p107 : 0 ≤ (x8_1 : Int) := pD
           have q107 : x8_1 < (l0.length : Int) := pD
           obtain ⟨ad107, A107_2, c107_2, e107, hx107_0, hx107_1, hx107_2, hl107_2, hi107_2⟩ := at_T34 HR0.out x8_1 p107 q107
           cases e107; replace hx107_0 := cb HB hx107_0; replace hx107_1 := cb HB hx107_1; replace hx107_2 := cb HB hx107_2; have HR107_2 := am hi107_2; have HC107_2 := am hl107_2; clear hi107_2 hl107_2; replace p107 := eq_true p107; replace q107 := eq_true q107
           go_wp2_with (first | ((with_reducible refine gate_value (x := .tmp 11) rfl ?_); refine goesC_ (some 16) rfl rfl Try.func110 (by kernel_rfl) rfl (x := .tmp 11) rfl #[.agg #[.int .i64 ((rd_T34 l0 x8_1).f0), .int .i64 ((rd_T34 l0 x8_1).f1), .slice A107_2 ((rd_T34 l0 x8_1).f2).length c107_2], .pointer A1] rfl pA ?_; (with_reducible refine (impl_inFault_1_in.calls ((rd_T34 l0 x8_1).f0) ((rd_T34 l0 x8_1).f1) _ _ ((rd_T34 l0 x8_1).f2) _ c1 l1 true _ ?side1 ?side2 ?side3 ?side4 A6.out).mono ?_); (case side1 => exact pC (Kd.C_below HR107_2.out HB.out)); (case side2 => exact HC107_2.out); (case side3 => exact pC (Kd.C_below HR1.out HB.out)); (case side4 => exact HC1.out); rintro e w8 ⟨rfl, hb⟩; refine ⟨_, rfl, ?_⟩; have n_ := am (bz_ pB hb); clear HB; have HB := n_; clear n_; (try clear hb)))
           go_ret
           exact ⟨pE, pB⟩
         · replace c7 := Bool.eq_false_iff.mpr c7
           subst c7
           have H1 : (impl_IndexFunc_at_impl_inFault_1_in.l0 k1 l0 l1 (l0.length : Int) (wrap64 (x8_1 + 1))) = some r := by rw [if_neg (show ¬ (false = true) by decide)] at H; exact H
           clear H; have H := H1; clear H1
           have H' := am H
           clear H
           have p107 : 0 ≤ (x8_1 : Int) := pD
           have q107 : x8_1 < (l0.length : Int) := pD
           obtain ⟨ad107, A107_2, c107_2, e107, hx107_0, hx107_1, hx107_2, hl107_2, hi107_2⟩ := at_T34 HR0.out x8_1 p107 q107
           cases e107; replace hx107_0 := cb HB hx107_0; replace hx107_1 := cb HB hx107_1; replace hx107_2 := cb HB hx107_2; have HR107_2 := am hi107_2; have HC107_2 := am hl107_2; clear hi107_2 hl107_2; replace p107 := eq_true p107; replace q107 := eq_true q107
           go_wp2_with (first | ((with_reducible refine gate_value (x := .tmp 11) rfl ?_); refine goesC_ (some 16) rfl rfl Try.func110 (by kernel_rfl) rfl (x := .tmp 11) rfl #[.agg #[.int .i64 ((rd_T34 l0 x8_1).f0), .int .i64 ((rd_T34 l0 x8_1).f1), .slice A107_2 ((rd_T34 l0 x8_1).f2).length c107_2], .pointer A1] rfl pA ?_; (with_reducible refine (impl_inFault_1_in.calls ((rd_T34 l0 x8_1).f0) ((rd_T34 l0 x8_1).f1) _ _ ((rd_T34 l0 x8_1).f2) _ c1 l1 false _ ?side1 ?side2 ?side3 ?side4 A6.out).mono ?_); (case side1 => exact pC (Kd.C_below HR107_2.out HB.out)); (case side2 => exact HC107_2.out); (case side3 => exact pC (Kd.C_below HR1.out HB.out)); (case side4 => exact HC1.out); rintro e w9 ⟨rfl, hb⟩; refine ⟨_, rfl, ?_⟩; have n_ := am (bz_ pB hb); clear HB; have HB := n_; clear n_; (try clear hb)))
           go_roundg k1
           case measure => have := HK1.out; omega
           case rel => exact ⟨(wrap64 (x8_1 + 1)), pF, H', ⟨by have := HK1.out; omega⟩, ⟨pB⟩⟩
       · rw [if_neg c5] at H
         exact absurd H (by simp)
     · rw [if_neg c4] at H
       exact absurd H (by simp)
   · rw [if_neg c3] at H
     have c3b0 : decide (x8_1 < (l0.length : Int)) = false := decide_eq_false c3
     clear c3
     obtain rfl := sj H
     go_wp2
     go_ret
     exact ⟨pE, pB⟩
def impl_ContainsFunc_at_impl_inFault_1_in.f (k : Nat) (l0 : List (S34)) (l1 : List (S34)) : Option (Bool) := (impl_IndexFunc_at_impl_inFault_1_in.f k l0 l1).bind fun t109 => (some (decide (t109 ≥ 0)))
theorem impl_ContainsFunc_at_impl_inFault_1_in.mono : ∀ a0 a1 k, LeO (impl_ContainsFunc_at_impl_inFault_1_in.f k a0 a1) (impl_ContainsFunc_at_impl_inFault_1_in.f (k + 1) a0 a1) := by
 intro a0 a1 k
 unfold impl_ContainsFunc_at_impl_inFault_1_in.f
 repeat' with_reducible first | exact impl_IndexFunc_at_impl_inFault_1_in.mono _ _ _ | exact LeO.refl _ | exact LeO.none _ | refine LeO.ite ?_ ?_ | refine LeO.bind ?_ (fun _ => ?_)
theorem impl_ContainsFunc_at_impl_inFault_1_in.calls (k : Nat) (A0 : Option Addr) (c0 : Nat) (l0 : List (S34)) (A1 : Option Addr) (c1 : Nat) (l1 : List (S34)) (r : Bool) (w : World) (hr0 : Kd.C k34 w A0 l0.length l0) (hc0 : l0.length ≤ c0) (hr1 : Kd.C k34 w A1 l1.length l1) (hc1 : l1.length ≤ c1) (h : impl_ContainsFunc_at_impl_inFault_1_in.f k l0 l1 = some r) :
 Calls Try.prog 109 #[.slice A0 l0.length c0, .func (.func 110) #[] #[.pointer A1]] w fun e w' => e = .returned (.bool r) ∧ Below w.heap.size w w' := by
 have HR0 := am hr0; have HC0 := am hc0; clear hr0 hc0; have HR1 := am hr1; have HC1 := am hc1; clear hr1 hc1
 have HB := am (Below.refl w.heap.size w)
 have H : ((impl_IndexFunc_at_impl_inFault_1_in.f k l0 l1).bind fun t109 => (some (decide (t109 ≥ 0)))) = some r := h
 clear h
 obtain ⟨t109, A30, H⟩ := bO H
 replace H : (some (decide (t109 ≥ 0))) = some r := H
 have A3 := am A30; clear A30
 obtain rfl := sj H
 go_enter Try.func109, Try.ntmps109
 go_wp2_with (first | ((with_reducible refine gC (f := 142) rfl ?_); refine goesL_ (some 7) rfl rfl Try.func142 (by kernel_rfl) rfl #[.slice A0 l0.length c0, .func (.func 110) #[] #[.pointer A1]] rfl pA ?_; (with_reducible refine (impl_IndexFunc_at_impl_inFault_1_in.calls k _ _ l0 _ c1 l1 t109 _ ?side1 ?side2 ?side3 ?side4 A3.out).mono ?_); (case side1 => exact pC HR0.out); (case side2 => exact HC0.out); (case side3 => exact pC HR1.out); (case side4 => exact HC1.out); rintro e w4 ⟨rfl, hb⟩; refine ⟨_, rfl, ?_⟩; have n_ := am (bz_ pB hb); clear HB; have HB := n_; clear n_; (try clear hb)))
 go_ret
 exact ⟨pE, pB⟩
def impl_ContainsFunc_at_impl_inFault_1.f (k : Nat) (l0 : List (S34)) (a1_0 : Int) (a1_1 : Int) (l1_2 : List Int) : Option (Bool) := impl_ContainsFunc_at_impl_inFault_1_in.f k l0 [(⟨a1_0, a1_1, l1_2⟩ : S34)]
theorem impl_ContainsFunc_at_impl_inFault_1.mono : ∀ (l0 : List (S34)) (a1_0 : Int) (a1_1 : Int) (l1_2 : List Int) (k : Nat), LeO (impl_ContainsFunc_at_impl_inFault_1.f k l0 a1_0 a1_1 l1_2) (impl_ContainsFunc_at_impl_inFault_1.f (k + 1) l0 a1_0 a1_1 l1_2) := fun l0 a1_0 a1_1 l1_2 k => impl_ContainsFunc_at_impl_inFault_1_in.mono l0 [(⟨a1_0, a1_1, l1_2⟩ : S34)] k
set_option maxHeartbeats 8000000 in
theorem impl_ContainsFunc_at_impl_inFault_1.calls (k : Nat) (A0 : Option Addr) (c0 : Nat) (l0 : List (S34)) (a1_0 : Int) (a1_1 : Int) (A1_2 : Option Addr) (c1_2 : Nat) (l1_2 : List Int) (r : Bool) (w : World) (hr0 : Kd.C k34 w A0 l0.length l0) (hc0 : l0.length ≤ c0) (hr1_2 : Kd.C (Kd.int .i64) w A1_2 l1_2.length l1_2) (hc1_2 : l1_2.length ≤ c1_2) (h : impl_ContainsFunc_at_impl_inFault_1.f k l0 a1_0 a1_1 l1_2 = some r) {pp1 : Addr} (hpp1_0 : w.cell? pp1 = some (.int .i64 a1_0)) (hpp1_1 : w.cell? ⟨pp1.block, pp1.off + 1, none⟩ = some (.int .i64 a1_1)) (hpp1_2 : w.cell? ⟨pp1.block, pp1.off + 2, none⟩ = some (.slice A1_2 l1_2.length c1_2)) :
 Calls Try.prog 109 #[.slice A0 l0.length c0, .func (.func 110) #[] #[.pointer (some pp1)]] w fun e w' => e = .returned (.bool r) ∧ Below w.heap.size w w' := by
 have o1 : Kd.C k34 w (some pp1) 1 [(⟨a1_0, a1_1, l1_2⟩ : S34)] := by
  refine ⟨rfl, by decide, fun _ => ⟨pp1, rfl, fun j p hj => ?_⟩⟩
  cases j with
  | succ j => simp at hj
  | zero =>
   obtain rfl : (⟨a1_0, a1_1, l1_2⟩ : S34) = p := by simpa using hj
   refine ⟨_, rfl, k34_mk w _ hc1_2 hr1_2, fun i u hu => ?_⟩
   match i, hu with
   | 0, hu => obtain rfl := sj hu; exact hpp1_0
   | 1, hu => obtain rfl := sj hu; exact hpp1_1
   | 2, hu => obtain rfl := sj hu; exact hpp1_2
 exact impl_ContainsFunc_at_impl_inFault_1_in.calls k A0 c0 l0 (some pp1) 1 [(⟨a1_0, a1_1, l1_2⟩ : S34)] r w hr0 hc0 o1 (Nat.le_refl 1) h
def slices_IndexFunc_at_impl_badCell.l0 : Nat → List Int → Int → Int → Option (Int)
 | 0, _, _, _ => none
 | k + 1, x0, x7, x8 => if x8 < x7 then (if 0 ≤ x8 then (if x8 < (x0.length : Int) then ((impl_badCell.f (rd x0 x8)).bind fun t111 => (if t111 = true then (some x8) else (slices_IndexFunc_at_impl_badCell.l0 k x0 x7 (wrap64 (x8 + 1))))) else (none)) else (none)) else (some (-1))
def slices_IndexFunc_at_impl_badCell.f (k : Nat) (l0 : List Int) : Option (Int) := slices_IndexFunc_at_impl_badCell.l0 k l0 (l0.length : Int) 0
theorem slices_IndexFunc_at_impl_badCell.mono_l : ∀ k, (∀ y0 y1 y2, LeO (slices_IndexFunc_at_impl_badCell.l0 k y0 y1 y2) (slices_IndexFunc_at_impl_badCell.l0 (k + 1) y0 y1 y2))
 | 0 => fun _ _ _ r h => by simp [slices_IndexFunc_at_impl_badCell.l0] at h
 | k + 1 => by
  have ih0 := slices_IndexFunc_at_impl_badCell.mono_l k
  · intro y0 y1 y2
    unfold slices_IndexFunc_at_impl_badCell.l0
    repeat' with_reducible first | exact ih0 _ _ _ | exact LeO.refl _ | exact LeO.none _ | refine LeO.ite ?_ ?_ | refine LeO.bind ?_ (fun _ => ?_)
theorem slices_IndexFunc_at_impl_badCell.mono : ∀ a0 k, LeO (slices_IndexFunc_at_impl_badCell.f k a0) (slices_IndexFunc_at_impl_badCell.f (k + 1) a0) := by
 intro a0 k
 have ih0 := slices_IndexFunc_at_impl_badCell.mono_l k
 unfold slices_IndexFunc_at_impl_badCell.f
 repeat' with_reducible first | exact ih0 _ _ _ | exact LeO.refl _ | exact LeO.none _ | refine LeO.ite ?_ ?_ | refine LeO.bind ?_ (fun _ => ?_)
theorem slices_IndexFunc_at_impl_badCell.calls (k : Nat) (A0 : Option Addr) (c0 : Nat) (l0 : List Int) (r : Int) (w : World) (hr0 : Kd.C (Kd.int .i64) w A0 l0.length l0) (hc0 : l0.length ≤ c0) (h : slices_IndexFunc_at_impl_badCell.f k l0 = some r) :
 Calls Try.prog 141 #[.slice A0 l0.length c0, .func (.func 108) #[] #[]] w fun e w' => e = .returned (.int .i64 r) ∧ Drawn0 w w' := by
 have HR0 := am hr0; have HC0 := am hc0; clear hr0 hc0
 have H : (slices_IndexFunc_at_impl_badCell.l0 k l0 (l0.length : Int) 0) = some r := h
 clear h
 have H' := am H
 clear H
 go_enter Try.func141, Try.ntmps141
 go_wp2
 go_loopg [8] k (fun kq v8 w' => ∃ (x8_1 : Int), v8 = .int .i64 x8_1 ∧ Aside0 (slices_IndexFunc_at_impl_badCell.l0 kq l0 (l0.length : Int) x8_1 = some r) ∧ Aside0 (kq ≤ k) ∧ Drawn0 w w')
 case atStart => exact ⟨(0), pF, H', ⟨Nat.le_refl _⟩, pW⟩
 case round =>
  clear H'
  obtain ⟨x8_1, rfl, HA, HK1, ⟨m1, rfl⟩⟩ := hrel
  cases gk with
  | zero => exact absurd HA.out (by simp [slices_IndexFunc_at_impl_badCell.l0])
  | succ k1 =>
   have H := HA.out
   clear HA
   simp only [slices_IndexFunc_at_impl_badCell.l0] at H
   by_cases c2 : x8_1 < (l0.length : Int)
   · rw [if_pos c2] at H
     have c2b0 : decide (x8_1 < (l0.length : Int)) = true := dt c2
     clear c2
     by_cases c3 : 0 ≤ x8_1
     · rw [if_pos c3] at H
       have c3b0 : decide (0 ≤ x8_1) = true := dt c3
       clear c3
       by_cases c4 : x8_1 < (l0.length : Int)
       · rw [if_pos c4] at H
         have c4b0 : decide (x8_1 < (l0.length : Int)) = true := dt c4
         clear c4
         obtain ⟨t111, A50, H⟩ := bO H
         replace H : (if t111 = true then (some x8_1) else (slices_IndexFunc_at_impl_badCell.l0 k1 l0 (l0.length : Int) (wrap64 (x8_1 + 1)))) = some r := H
         have A5 := am A50; clear A50
         by_cases c6 : t111 = true
         · subst c6
           have H1 : (some x8_1) = some r := by rw [if_pos rfl] at H; exact H
           clear H; have H := H1; clear H1
           obtain rfl := sj H
           have p110 : 0 ≤ (x8_1 : Int) := pD
           have q110 : x8_1 < (l0.length : Int) := pD
           obtain ⟨ad110, e110, hx110_0⟩ := Kd.at_int HR0.out x8_1 p110 q110
           cases e110; replace p110 := eq_true p110; replace q110 := eq_true q110
           go_wp2_with (first | ((with_reducible refine gate_value (x := .tmp 11) rfl ?_); refine goesV_ (some 16) rfl rfl Try.func108 (by kernel_rfl) rfl (x := .tmp 11) rfl #[.int .i64 (rd l0 x8_1)] rfl pA ?_; (with_reducible refine (impl_badCell.calls (rd l0 x8_1) true _ A5.out).mono ?_); rintro e w' ⟨rfl, ⟨nd, rfl⟩⟩; refine ⟨_, rfl, ?_⟩))
           go_ret
           exact ⟨by first | rfl | (simp; done) | (simp [*]; done), pW⟩
         · replace c6 := Bool.eq_false_iff.mpr c6
           subst c6
           have H1 : (slices_IndexFunc_at_impl_badCell.l0 k1 l0 (l0.length : Int) (wrap64 (x8_1 + 1))) = some r := by rw [if_neg (show ¬ (false = true) by decide)] at H; exact H
           clear H; have H := H1; clear H1
           have H' := am H
           clear H
           have p110 : 0 ≤ (x8_1 : Int) := pD
           have q110 : x8_1 < (l0.length : Int) := pD
           obtain ⟨ad110, e110, hx110_0⟩ := Kd.at_int HR0.out x8_1 p110 q110
           cases e110; replace p110 := eq_true p110; replace q110 := eq_true q110
           go_wp2_with (first | ((with_reducible refine gate_value (x := .tmp 11) rfl ?_); refine goesV_ (some 16) rfl rfl Try.func108 (by kernel_rfl) rfl (x := .tmp 11) rfl #[.int .i64 (rd l0 x8_1)] rfl pA ?_; (with_reducible refine (impl_badCell.calls (rd l0 x8_1) false _ A5.out).mono ?_); rintro e w' ⟨rfl, ⟨nd, rfl⟩⟩; refine ⟨_, rfl, ?_⟩))
           go_roundg k1
           case measure => have := HK1.out; omega
           case rel => exact ⟨(wrap64 (x8_1 + 1)), pF, H', ⟨by have := HK1.out; omega⟩, pW⟩
       · rw [if_neg c4] at H
         exact absurd H (by simp)
     · rw [if_neg c3] at H
       exact absurd H (by simp)
   · rw [if_neg c2] at H
     have c2b0 : decide (x8_1 < (l0.length : Int)) = false := decide_eq_false c2
     clear c2
     obtain rfl := sj H
     go_wp2
     go_ret
     exact ⟨by first | rfl | (simp; done) | (simp [*]; done), pW⟩
def slices_ContainsFunc_at_impl_badCell.f (k : Nat) (l0 : List Int) : Option (Bool) := (slices_IndexFunc_at_impl_badCell.f k l0).bind fun t112 => (some (decide (t112 ≥ 0)))
theorem slices_ContainsFunc_at_impl_badCell.mono : ∀ a0 k, LeO (slices_ContainsFunc_at_impl_badCell.f k a0) (slices_ContainsFunc_at_impl_badCell.f (k + 1) a0) := by
 intro a0 k
 unfold slices_ContainsFunc_at_impl_badCell.f
 repeat' with_reducible first | exact slices_IndexFunc_at_impl_badCell.mono _ _ | exact LeO.refl _ | exact LeO.none _ | refine LeO.ite ?_ ?_ | refine LeO.bind ?_ (fun _ => ?_)
theorem slices_ContainsFunc_at_impl_badCell.calls (k : Nat) (A0 : Option Addr) (c0 : Nat) (l0 : List Int) (r : Bool) (w : World) (hr0 : Kd.C (Kd.int .i64) w A0 l0.length l0) (hc0 : l0.length ≤ c0) (h : slices_ContainsFunc_at_impl_badCell.f k l0 = some r) :
 Calls Try.prog 107 #[.slice A0 l0.length c0, .func (.func 108) #[] #[]] w fun e w' => e = .returned (.bool r) ∧ Drawn0 w w' := by
 have HR0 := am hr0; have HC0 := am hc0; clear hr0 hc0
 have H : ((slices_IndexFunc_at_impl_badCell.f k l0).bind fun t112 => (some (decide (t112 ≥ 0)))) = some r := h
 clear h
 obtain ⟨t112, A20, H⟩ := bO H
 replace H : (some (decide (t112 ≥ 0))) = some r := H
 have A2 := am A20; clear A20
 obtain rfl := sj H
 go_enter Try.func107, Try.ntmps107
 go_wp2_with (first | ((with_reducible refine gC (f := 141) rfl ?_); refine goesL_ (some 7) rfl rfl Try.func141 (by kernel_rfl) rfl #[.slice A0 l0.length c0, .func (.func 108) #[] #[]] rfl pA ?_; (with_reducible refine (slices_IndexFunc_at_impl_badCell.calls k _ _ l0 t112 _ ?side1 ?side2 A2.out).mono ?_); (case side1 => exact pC HR0.out); (case side2 => exact HC0.out); rintro e w' ⟨rfl, ⟨nd, rfl⟩⟩; refine ⟨_, rfl, ?_⟩))
 go_ret
 exact ⟨by first | rfl | (simp; done) | (simp [*]; done), pW⟩
def impl_inFault.j0 : Nat → List (S34) → Bool → Int → Int → List Int → Option (Int)
 | 0, _, _, _, _, _ => none
 | k + 1, x1, x5, x114000, x114001, x114002 => if x5 = true then (some 3) else (if (x114002.length : Int) > 8 then (some 2) else ((slices_ContainsFunc_at_impl_badCell.f k x114002).bind fun t116 => (if t116 = true then (some 3) else ((impl_ContainsFunc_at_impl_inFault_1.f k x1 x114000 x114001 x114002).bind fun t117 => (if t117 = true then (some 6) else (some 0))))))
def impl_inFault.f (k : Nat) (a0_0 : Int) (a0_1 : Int) (l0_2 : List Int) (l1 : List (S34)) : Option (Int) := (impl_isSum.f a0_0).bind fun t114 => (if t114 = true then ((impl_in.f a0_1 0 3).bind fun t115 => (impl_inFault.j0 k l1 (!t115) a0_0 a0_1 l0_2)) else (impl_inFault.j0 k l1 true a0_0 a0_1 l0_2))
theorem impl_inFault.mono_l : ∀ k, (∀ y0 y1 y2 y3 y4, LeO (impl_inFault.j0 k y0 y1 y2 y3 y4) (impl_inFault.j0 (k + 1) y0 y1 y2 y3 y4))
 | 0 => fun _ _ _ _ _ r h => by simp [impl_inFault.j0] at h
 | k + 1 => by
  have ih0 := impl_inFault.mono_l k
  · intro y0 y1 y2 y3 y4
    unfold impl_inFault.j0
    repeat' with_reducible first | exact ih0 _ _ _ _ _ | exact impl_ContainsFunc_at_impl_inFault_1.mono _ _ _ _ _ | exact slices_ContainsFunc_at_impl_badCell.mono _ _ | exact LeO.refl _ | exact LeO.none _ | refine LeO.ite ?_ ?_ | refine LeO.bind ?_ (fun _ => ?_)
theorem impl_inFault.mono : ∀ a0 a1 a2 a3 k, LeO (impl_inFault.f k a0 a1 a2 a3) (impl_inFault.f (k + 1) a0 a1 a2 a3) := by
 intro a0 a1 a2 a3 k
 have ih0 := impl_inFault.mono_l k
 unfold impl_inFault.f
 repeat' with_reducible first | exact ih0 _ _ _ _ _ | exact impl_ContainsFunc_at_impl_inFault_1.mono _ _ _ _ _ | exact slices_ContainsFunc_at_impl_badCell.mono _ _ | exact LeO.refl _ | exact LeO.none _ | refine LeO.ite ?_ ?_ | refine LeO.bind ?_ (fun _ => ?_)
theorem impl_inFault.calls (k : Nat) (a0_0 : Int) (a0_1 : Int) (A0_2 : Option Addr) (c0_2 : Nat) (l0_2 : List Int) (A1 : Option Addr) (c1 : Nat) (l1 : List (S34)) (r : Int) (w : World) (hr0_2 : Kd.C (Kd.int .i64) w A0_2 l0_2.length l0_2) (hc0_2 : l0_2.length ≤ c0_2) (hr1 : Kd.C k34 w A1 l1.length l1) (hc1 : l1.length ≤ c1) (h : impl_inFault.f k a0_0 a0_1 l0_2 l1 = some r) :
 Calls Try.prog 58 #[.agg #[.int .i64 a0_0, .int .i64 a0_1, .slice A0_2 l0_2.length c0_2], .slice A1 l1.length c1] w fun e w' => e = .returned (.int .i64 r) ∧ Below w.heap.size w w' := by
 have hu34 := Try.underlying34
 have HR0_2 := am hr0_2; have HC0_2 := am hc0_2; clear hr0_2 hc0_2; have HR1 := am hr1; have HC1 := am hc1; clear hr1 hc1
 have HB := am (Below.refl w.heap.size w)
 have H : ((impl_isSum.f a0_0).bind fun t114 => (if t114 = true then ((impl_in.f a0_1 0 3).bind fun t115 => (impl_inFault.j0 k l1 (!t115) a0_0 a0_1 l0_2)) else (impl_inFault.j0 k l1 true a0_0 a0_1 l0_2))) = some r := h
 clear h; have HC3 := am H; clear H
 go_enter Try.func58, Try.ntmps58
 go_upto_region 1 with (first | ((with_reducible refine gate_dst (N := 2) rfl ?_); refine box_event ?hg (N := 2) ?hd (cs := #[.int .i64 a0_0, .int .i64 a0_1, .slice A0_2 l0_2.length c0_2]) (t := 34) ?hr ?_; (case hd => rfl); (case hg => rfl); (case hr => first | (go_simp; done) | (go_simp; rfl)); intro gb113 hg w4 hbox hb; have n_ := t4 (bz_ pB hb) (hbox) ((by rw [hg]; exact (bs_ pB) : w.heap.size ≤ gb113)) ((by rw [hg]; exact (bs_ pB) : w.heap.size ≤ gb113)); clear HB; obtain ⟨HB, BK113, GW113, GE113⟩ := n_; clear hb hbox hg))
 (try simp only [Act.put, List.setIfInBounds_toArray, List.set_cons_zero, List.set_cons_succ])
 go_cut [5] (fun v5 wc => ∃ (kq : Nat) (x5_2 : Bool), v5 = .bool x5_2 ∧ Aside0 (impl_inFault.j0 kq l1 x5_2 a0_0 a0_1 l0_2 = some r) ∧ Aside0 (kq ≤ k) ∧ Aside0 (wc.heap[gb113]? = some (.cells #[.int .i64 a0_0, .int .i64 a0_1, (.slice A0_2 l0_2.length c0_2)] 34 (0, 0))) ∧ Aside0 (Below w.heap.size w wc))
 case first =>
  have H := HC3.out
  clear HC3
  obtain ⟨t114, A50, H⟩ := bO H
  replace H : (if t114 = true then ((impl_in.f a0_1 0 3).bind fun t115 => (impl_inFault.j0 k l1 (!t115) a0_0 a0_1 l0_2)) else (impl_inFault.j0 k l1 true a0_0 a0_1 l0_2)) = some r := H
  have A5 := am A50; clear A50
  by_cases c6 : t114 = true
  · subst c6
    have H1 : ((impl_in.f a0_1 0 3).bind fun t115 => (impl_inFault.j0 k l1 (!t115) a0_0 a0_1 l0_2)) = some r := by rw [if_pos rfl] at H; exact H
    clear H; have H := H1; clear H1
    obtain ⟨t115, A70, H⟩ := bO H
    replace H : (impl_inFault.j0 k l1 (!t115) a0_0 a0_1 l0_2) = some r := H
    have A7 := am A70; clear A70
    have H' := am H
    clear H
    obtain ⟨hcz8_0, hcz8_1, hcz8_2, hfz8_0, hfz8_1, hfz8_2⟩ := bx3 BK113
    go_wp2_with (first | ((with_reducible refine gC (f := 91) rfl ?_); refine goesL_ (some 8) rfl rfl Try.func91 (by kernel_rfl) rfl #[.int .i64 a0_0] rfl pA ?_; (with_reducible refine (impl_isSum.calls a0_0 true _ A5.out).mono ?_); rintro e w' ⟨rfl, ⟨nd, rfl⟩⟩; refine ⟨_, rfl, ?_⟩) | (go_at_call 57; (with_reducible refine (impl_in.calls a0_1 0 3 t115 _ A7.out).mono ?_); rintro e w' ⟨rfl, ⟨nd, rfl⟩⟩))
    go_meet
    case rel => exact ⟨_, (!t115), pF, H', ⟨by first | omega | exact Nat.le_refl _⟩, ⟨(pK BK113)⟩, ⟨pB⟩⟩
  · replace c6 := Bool.eq_false_iff.mpr c6
    subst c6
    have H1 : (impl_inFault.j0 k l1 true a0_0 a0_1 l0_2) = some r := by rw [if_neg (show ¬ (false = true) by decide)] at H; exact H
    clear H; have H := H1; clear H1
    have H' := am H
    clear H
    obtain ⟨hcz9_0, hcz9_1, hcz9_2, hfz9_0, hfz9_1, hfz9_2⟩ := bx3 BK113
    go_wp2_with (first | ((with_reducible refine gC (f := 91) rfl ?_); refine goesL_ (some 8) rfl rfl Try.func91 (by kernel_rfl) rfl #[.int .i64 a0_0] rfl pA ?_; (with_reducible refine (impl_isSum.calls a0_0 false _ A5.out).mono ?_); rintro e w' ⟨rfl, ⟨nd, rfl⟩⟩; refine ⟨_, rfl, ?_⟩))
    go_meet
    case rel => exact ⟨_, (true), pF, H', ⟨by first | omega | exact Nat.le_refl _⟩, ⟨(pK BK113)⟩, ⟨pB⟩⟩
 case rest =>
  clear HC3; (try clear c1)
  obtain ⟨kq, x5_2, rfl, HA, HJ2, BK113, HB⟩ := hcut
  cases kq with
  | zero => exact absurd HA.out (by simp [impl_inFault.j0])
  | succ kj2 =>
   have H := HA.out
   clear HA
   simp only [impl_inFault.j0] at H
   by_cases c10 : x5_2 = true
   · subst c10
     have H1 : (some 3) = some r := by rw [if_pos rfl] at H; exact H
     clear H; have H := H1; clear H1
     obtain rfl := sj H
     go_wp2
     go_ret
     exact ⟨pE, pB⟩
   · replace c10 := Bool.eq_false_iff.mpr c10
     subst c10
     have H1 : (if (l0_2.length : Int) > 8 then (some 2) else ((slices_ContainsFunc_at_impl_badCell.f kj2 l0_2).bind fun t116 => (if t116 = true then (some 3) else ((impl_ContainsFunc_at_impl_inFault_1.f kj2 l1 a0_0 a0_1 l0_2).bind fun t117 => (if t117 = true then (some 6) else (some 0)))))) = some r := by rw [if_neg (show ¬ (false = true) by decide)] at H; exact H
     clear H; have H := H1; clear H1
     by_cases c11 : (l0_2.length : Int) > 8
     · rw [if_pos c11] at H
       have c11b0 : decide (8 < (l0_2.length : Int)) = true := dt c11
       have c11b1 : decide (8 < l0_2.length) = true := dt (by omega)
       clear c11
       obtain rfl := sj H
       obtain ⟨hcz12_0, hcz12_1, hcz12_2, hfz12_0, hfz12_1, hfz12_2⟩ := bx3 BK113
       go_wp2
       go_ret
       exact ⟨pE, pB⟩
     · rw [if_neg c11] at H
       have c11b0 : decide (8 < (l0_2.length : Int)) = false := decide_eq_false c11
       have c11b1 : decide (8 < l0_2.length) = false := decide_eq_false (by omega)
       clear c11
       obtain ⟨t116, A130, H⟩ := bO H
       replace H : (if t116 = true then (some 3) else ((impl_ContainsFunc_at_impl_inFault_1.f kj2 l1 a0_0 a0_1 l0_2).bind fun t117 => (if t117 = true then (some 6) else (some 0)))) = some r := H
       have A13 := am A130; clear A130
       by_cases c14 : t116 = true
       · subst c14
         have H1 : (some 3) = some r := by rw [if_pos rfl] at H; exact H
         clear H; have H := H1; clear H1
         obtain rfl := sj H
         obtain ⟨hcz15_0, hcz15_1, hcz15_2, hfz15_0, hfz15_1, hfz15_2⟩ := bx3 BK113
         go_wp2_with (first | ((with_reducible refine gC (f := 107) rfl ?_); refine goesL_ (some 24) rfl rfl Try.func107 (by kernel_rfl) rfl #[.slice A0_2 l0_2.length c0_2, .func (.func 108) #[] #[]] rfl pA ?_; (with_reducible refine (slices_ContainsFunc_at_impl_badCell.calls kj2 _ _ l0_2 true _ ?side1 ?side2 A13.out).mono ?_); (case side1 => exact pC (Kd.C_below HR0_2.out HB.out)); (case side2 => exact HC0_2.out); rintro e w' ⟨rfl, ⟨nd, rfl⟩⟩; refine ⟨_, rfl, ?_⟩))
         go_ret
         exact ⟨pE, pB⟩
       · replace c14 := Bool.eq_false_iff.mpr c14
         subst c14
         have H1 : ((impl_ContainsFunc_at_impl_inFault_1.f kj2 l1 a0_0 a0_1 l0_2).bind fun t117 => (if t117 = true then (some 6) else (some 0))) = some r := by rw [if_neg (show ¬ (false = true) by decide)] at H; exact H
         clear H; have H := H1; clear H1
         obtain ⟨t117, A160, H⟩ := bO H
         replace H : (if t117 = true then (some 6) else (some 0)) = some r := H
         have A16 := am A160; clear A160
         by_cases c17 : t117 = true
         · subst c17
           have H1 : (some 6) = some r := by rw [if_pos rfl] at H; exact H
           clear H; have H := H1; clear H1
           obtain rfl := sj H
           obtain ⟨hcz18_0, hcz18_1, hcz18_2, hfz18_0, hfz18_1, hfz18_2⟩ := bx3 BK113
           go_wp2_with (first | ((with_reducible refine gC (f := 107) rfl ?_); refine goesL_ (some 24) rfl rfl Try.func107 (by kernel_rfl) rfl #[.slice A0_2 l0_2.length c0_2, .func (.func 108) #[] #[]] rfl pA ?_; (with_reducible refine (slices_ContainsFunc_at_impl_badCell.calls kj2 _ _ l0_2 false _ ?side1 ?side2 A13.out).mono ?_); (case side1 => exact pC (Kd.C_below HR0_2.out HB.out)); (case side2 => exact HC0_2.out); rintro e w' ⟨rfl, ⟨nd, rfl⟩⟩; refine ⟨_, rfl, ?_⟩) | ((with_reducible refine gC (f := 109) rfl ?_); refine goesL_ (some 28) rfl rfl Try.func109 (by kernel_rfl) rfl #[.slice A1 l1.length c1, .func (.func 110) #[] #[.pointer (some _)]] rfl pA ?_; (refine Calls.mono (impl_ContainsFunc_at_impl_inFault_1.calls kj2 _ _ l1 a0_0 a0_1 _ _ l0_2 true _ ?side1 ?side2 ?side3 ?side4 A16.out (hpp1_0 := by first | (with_unfolding_all assumption) | (dsimp only; assumption) | (dsimp only [Nat.zero_add]; exact (blk_cell (Aside0.out (by assumption)) _).trans rfl) | (go_simp; done)) (hpp1_1 := by first | (with_unfolding_all assumption) | (dsimp only; assumption) | (dsimp only [Nat.zero_add]; exact (blk_cell (Aside0.out (by assumption)) _).trans rfl) | (go_simp; done)) (hpp1_2 := by first | (with_unfolding_all assumption) | (dsimp only; assumption) | (dsimp only [Nat.zero_add]; exact (blk_cell (Aside0.out (by assumption)) _).trans rfl) | (go_simp; done))) ?_); (case side1 => exact pC (Kd.C_below HR1.out pB)); (case side2 => exact HC1.out); (case side3 => exact pC (Kd.C_below HR0_2.out pB)); (case side4 => exact HC0_2.out); rintro e w19 ⟨rfl, hb⟩; refine ⟨_, rfl, ?_⟩; have n_ := t2 (blk_below (g := gb113) (o := .cells #[.int .i64 a0_0, .int .i64 a0_1, .slice A0_2 l0_2.length c0_2] 34 (0, 0)) (pK BK113) hb) (bz_ pB hb); clear BK113 HB; obtain ⟨BK113, HB⟩ := n_; (try clear hb)))
           go_ret
           exact ⟨pE, pB⟩
         · replace c17 := Bool.eq_false_iff.mpr c17
           subst c17
           have H1 : (some 0) = some r := by rw [if_neg (show ¬ (false = true) by decide)] at H; exact H
           clear H; have H := H1; clear H1
           obtain rfl := sj H
           obtain ⟨hcz20_0, hcz20_1, hcz20_2, hfz20_0, hfz20_1, hfz20_2⟩ := bx3 BK113
           go_wp2_with (first | ((with_reducible refine gC (f := 107) rfl ?_); refine goesL_ (some 24) rfl rfl Try.func107 (by kernel_rfl) rfl #[.slice A0_2 l0_2.length c0_2, .func (.func 108) #[] #[]] rfl pA ?_; (with_reducible refine (slices_ContainsFunc_at_impl_badCell.calls kj2 _ _ l0_2 false _ ?side1 ?side2 A13.out).mono ?_); (case side1 => exact pC (Kd.C_below HR0_2.out HB.out)); (case side2 => exact HC0_2.out); rintro e w' ⟨rfl, ⟨nd, rfl⟩⟩; refine ⟨_, rfl, ?_⟩) | ((with_reducible refine gC (f := 109) rfl ?_); refine goesL_ (some 28) rfl rfl Try.func109 (by kernel_rfl) rfl #[.slice A1 l1.length c1, .func (.func 110) #[] #[.pointer (some _)]] rfl pA ?_; (refine Calls.mono (impl_ContainsFunc_at_impl_inFault_1.calls kj2 _ _ l1 a0_0 a0_1 _ _ l0_2 false _ ?side1 ?side2 ?side3 ?side4 A16.out (hpp1_0 := by first | (with_unfolding_all assumption) | (dsimp only; assumption) | (dsimp only [Nat.zero_add]; exact (blk_cell (Aside0.out (by assumption)) _).trans rfl) | (go_simp; done)) (hpp1_1 := by first | (with_unfolding_all assumption) | (dsimp only; assumption) | (dsimp only [Nat.zero_add]; exact (blk_cell (Aside0.out (by assumption)) _).trans rfl) | (go_simp; done)) (hpp1_2 := by first | (with_unfolding_all assumption) | (dsimp only; assumption) | (dsimp only [Nat.zero_add]; exact (blk_cell (Aside0.out (by assumption)) _).trans rfl) | (go_simp; done))) ?_); (case side1 => exact pC (Kd.C_below HR1.out pB)); (case side2 => exact HC1.out); (case side3 => exact pC (Kd.C_below HR0_2.out pB)); (case side4 => exact HC0_2.out); rintro e w21 ⟨rfl, hb⟩; refine ⟨_, rfl, ?_⟩; have n_ := t2 (blk_below (g := gb113) (o := .cells #[.int .i64 a0_0, .int .i64 a0_1, .slice A0_2 l0_2.length c0_2] 34 (0, 0)) (pK BK113) hb) (bz_ pB hb); clear BK113 HB; obtain ⟨BK113, HB⟩ := n_; (try clear hb)))
           go_ret
           exact ⟨pE, pB⟩
def impl_isAmount.f (a0 : Int) : Option (Bool) := (impl_in.f a0 0 1000000).bind fun t118 => (some t118)
theorem impl_isAmount.calls (a0 : Int) (r : Bool) (w : World) (h : impl_isAmount.f a0 = some r) :
 Calls Try.prog 59 #[.int .i64 a0] w fun e w' => e = .returned (.bool r) ∧ Drawn0 w w' := by
 have H : ((impl_in.f a0 0 1000000).bind fun t118 => (some t118)) = some r := h
 clear h
 obtain ⟨t118, A20, H⟩ := bO H
 replace H : (some t118) = some r := H
 have A2 := am A20; clear A20
 obtain rfl := sj H
 go_enter Try.func59, Try.ntmps59
 go_wp2_with (first | ((with_reducible refine gC (f := 57) rfl ?_); refine goesL_ (some 4) rfl rfl Try.func57 (by kernel_rfl) rfl #[.int .i64 a0, .int .i64 0, .int .i64 1000000] rfl pA ?_; (with_reducible refine (impl_in.calls a0 0 1000000 t118 _ A2.out).mono ?_); rintro e w' ⟨rfl, ⟨nd, rfl⟩⟩; refine ⟨_, rfl, ?_⟩))
 go_ret
 exact ⟨by first | rfl | (simp; done) | (simp [*]; done), pW⟩
def impl_ProgramFault_1.f (a0 : Int) : Option (Bool) := (impl_in.f a0 1 9).bind fun t119 => (if t119 = true then (some false) else ((impl_in.f a0 100 1099).bind fun t120 => (some (!t120))))
theorem impl_ProgramFault_1.calls (a0 : Int) (r : Bool) (w : World) (h : impl_ProgramFault_1.f a0 = some r) :
 Calls Try.prog 111 #[.int .i64 a0] w fun e w' => e = .returned (.bool r) ∧ Drawn0 w w' := by
 have H : ((impl_in.f a0 1 9).bind fun t119 => (if t119 = true then (some false) else ((impl_in.f a0 100 1099).bind fun t120 => (some (!t120))))) = some r := h
 clear h
 obtain ⟨t119, A20, H⟩ := bO H
 replace H : (if t119 = true then (some false) else ((impl_in.f a0 100 1099).bind fun t120 => (some (!t120)))) = some r := H
 have A2 := am A20; clear A20
 by_cases c3 : t119 = true
 · subst c3
   have H1 : (some false) = some r := by rw [if_pos rfl] at H; exact H
   clear H; have H := H1; clear H1
   obtain rfl := sj H
   go_enter Try.func111, Try.ntmps111
   go_wp2_with (first | ((with_reducible refine gC (f := 57) rfl ?_); refine goesL_ (some 4) rfl rfl Try.func57 (by kernel_rfl) rfl #[.int .i64 a0, .int .i64 1, .int .i64 9] rfl pA ?_; (with_reducible refine (impl_in.calls a0 1 9 true _ A2.out).mono ?_); rintro e w' ⟨rfl, ⟨nd, rfl⟩⟩; refine ⟨_, rfl, ?_⟩))
   go_ret
   exact ⟨by first | rfl | (simp; done) | (simp [*]; done), pW⟩
 · replace c3 := Bool.eq_false_iff.mpr c3
   subst c3
   have H1 : ((impl_in.f a0 100 1099).bind fun t120 => (some (!t120))) = some r := by rw [if_neg (show ¬ (false = true) by decide)] at H; exact H
   clear H; have H := H1; clear H1
   obtain ⟨t120, A40, H⟩ := bO H
   replace H : (some (!t120)) = some r := H
   have A4 := am A40; clear A40
   obtain rfl := sj H
   go_enter Try.func111, Try.ntmps111
   go_wp2_with (first | ((with_reducible refine gC (f := 57) rfl ?_); refine goesL_ (some 4) rfl rfl Try.func57 (by kernel_rfl) rfl #[.int .i64 a0, .int .i64 1, .int .i64 9] rfl pA ?_; (with_reducible refine (impl_in.calls a0 1 9 false _ A2.out).mono ?_); rintro e w' ⟨rfl, ⟨nd, rfl⟩⟩; refine ⟨_, rfl, ?_⟩) | (go_at_call 57; (with_reducible refine (impl_in.calls a0 100 1099 t120 _ A4.out).mono ?_); rintro e w' ⟨rfl, ⟨nd, rfl⟩⟩))
   go_ret
   exact ⟨by first | rfl | (simp; done) | (simp [*]; done), pW⟩
def slices_IndexFunc_at_impl_ProgramFault_1.l0 : Nat → List Int → Int → Int → Option (Int)
 | 0, _, _, _ => none
 | k + 1, x0, x7, x8 => if x8 < x7 then (if 0 ≤ x8 then (if x8 < (x0.length : Int) then ((impl_ProgramFault_1.f (rd x0 x8)).bind fun t122 => (if t122 = true then (some x8) else (slices_IndexFunc_at_impl_ProgramFault_1.l0 k x0 x7 (wrap64 (x8 + 1))))) else (none)) else (none)) else (some (-1))
def slices_IndexFunc_at_impl_ProgramFault_1.f (k : Nat) (l0 : List Int) : Option (Int) := slices_IndexFunc_at_impl_ProgramFault_1.l0 k l0 (l0.length : Int) 0
theorem slices_IndexFunc_at_impl_ProgramFault_1.mono_l : ∀ k, (∀ y0 y1 y2, LeO (slices_IndexFunc_at_impl_ProgramFault_1.l0 k y0 y1 y2) (slices_IndexFunc_at_impl_ProgramFault_1.l0 (k + 1) y0 y1 y2))
 | 0 => fun _ _ _ r h => by simp [slices_IndexFunc_at_impl_ProgramFault_1.l0] at h
 | k + 1 => by
  have ih0 := slices_IndexFunc_at_impl_ProgramFault_1.mono_l k
  · intro y0 y1 y2
    unfold slices_IndexFunc_at_impl_ProgramFault_1.l0
    repeat' with_reducible first | exact ih0 _ _ _ | exact LeO.refl _ | exact LeO.none _ | refine LeO.ite ?_ ?_ | refine LeO.bind ?_ (fun _ => ?_)
theorem slices_IndexFunc_at_impl_ProgramFault_1.mono : ∀ a0 k, LeO (slices_IndexFunc_at_impl_ProgramFault_1.f k a0) (slices_IndexFunc_at_impl_ProgramFault_1.f (k + 1) a0) := by
 intro a0 k
 have ih0 := slices_IndexFunc_at_impl_ProgramFault_1.mono_l k
 unfold slices_IndexFunc_at_impl_ProgramFault_1.f
 repeat' with_reducible first | exact ih0 _ _ _ | exact LeO.refl _ | exact LeO.none _ | refine LeO.ite ?_ ?_ | refine LeO.bind ?_ (fun _ => ?_)
theorem slices_IndexFunc_at_impl_ProgramFault_1.calls (k : Nat) (A0 : Option Addr) (c0 : Nat) (l0 : List Int) (r : Int) (w : World) (hr0 : Kd.C (Kd.int .i64) w A0 l0.length l0) (hc0 : l0.length ≤ c0) (h : slices_IndexFunc_at_impl_ProgramFault_1.f k l0 = some r) :
 Calls Try.prog 141 #[.slice A0 l0.length c0, .func (.func 111) #[] #[]] w fun e w' => e = .returned (.int .i64 r) ∧ Drawn0 w w' := by
 have HR0 := am hr0; have HC0 := am hc0; clear hr0 hc0
 have H : (slices_IndexFunc_at_impl_ProgramFault_1.l0 k l0 (l0.length : Int) 0) = some r := h
 clear h
 have H' := am H
 clear H
 go_enter Try.func141, Try.ntmps141
 go_wp2
 go_loopg [8] k (fun kq v8 w' => ∃ (x8_1 : Int), v8 = .int .i64 x8_1 ∧ Aside0 (slices_IndexFunc_at_impl_ProgramFault_1.l0 kq l0 (l0.length : Int) x8_1 = some r) ∧ Aside0 (kq ≤ k) ∧ Drawn0 w w')
 case atStart => exact ⟨(0), pF, H', ⟨Nat.le_refl _⟩, pW⟩
 case round =>
  clear H'
  obtain ⟨x8_1, rfl, HA, HK1, ⟨m1, rfl⟩⟩ := hrel
  cases gk with
  | zero => exact absurd HA.out (by simp [slices_IndexFunc_at_impl_ProgramFault_1.l0])
  | succ k1 =>
   have H := HA.out
   clear HA
   simp only [slices_IndexFunc_at_impl_ProgramFault_1.l0] at H
   by_cases c2 : x8_1 < (l0.length : Int)
   · rw [if_pos c2] at H
     have c2b0 : decide (x8_1 < (l0.length : Int)) = true := dt c2
     clear c2
     by_cases c3 : 0 ≤ x8_1
     · rw [if_pos c3] at H
       have c3b0 : decide (0 ≤ x8_1) = true := dt c3
       clear c3
       by_cases c4 : x8_1 < (l0.length : Int)
       · rw [if_pos c4] at H
         have c4b0 : decide (x8_1 < (l0.length : Int)) = true := dt c4
         clear c4
         obtain ⟨t122, A50, H⟩ := bO H
         replace H : (if t122 = true then (some x8_1) else (slices_IndexFunc_at_impl_ProgramFault_1.l0 k1 l0 (l0.length : Int) (wrap64 (x8_1 + 1)))) = some r := H
         have A5 := am A50; clear A50
         by_cases c6 : t122 = true
         · subst c6
           have H1 : (some x8_1) = some r := by rw [if_pos rfl] at H; exact H
           clear H; have H := H1; clear H1
           obtain rfl := sj H
           have p121 : 0 ≤ (x8_1 : Int) := pD
           have q121 : x8_1 < (l0.length : Int) := pD
           obtain ⟨ad121, e121, hx121_0⟩ := Kd.at_int HR0.out x8_1 p121 q121
           cases e121; replace p121 := eq_true p121; replace q121 := eq_true q121
           go_wp2_with (first | ((with_reducible refine gate_value (x := .tmp 11) rfl ?_); refine goesV_ (some 16) rfl rfl Try.func111 (by kernel_rfl) rfl (x := .tmp 11) rfl #[.int .i64 (rd l0 x8_1)] rfl pA ?_; (with_reducible refine (impl_ProgramFault_1.calls (rd l0 x8_1) true _ A5.out).mono ?_); rintro e w' ⟨rfl, ⟨nd, rfl⟩⟩; refine ⟨_, rfl, ?_⟩))
           go_ret
           exact ⟨by first | rfl | (simp; done) | (simp [*]; done), pW⟩
         · replace c6 := Bool.eq_false_iff.mpr c6
           subst c6
           have H1 : (slices_IndexFunc_at_impl_ProgramFault_1.l0 k1 l0 (l0.length : Int) (wrap64 (x8_1 + 1))) = some r := by rw [if_neg (show ¬ (false = true) by decide)] at H; exact H
           clear H; have H := H1; clear H1
           have H' := am H
           clear H
           have p121 : 0 ≤ (x8_1 : Int) := pD
           have q121 : x8_1 < (l0.length : Int) := pD
           obtain ⟨ad121, e121, hx121_0⟩ := Kd.at_int HR0.out x8_1 p121 q121
           cases e121; replace p121 := eq_true p121; replace q121 := eq_true q121
           go_wp2_with (first | ((with_reducible refine gate_value (x := .tmp 11) rfl ?_); refine goesV_ (some 16) rfl rfl Try.func111 (by kernel_rfl) rfl (x := .tmp 11) rfl #[.int .i64 (rd l0 x8_1)] rfl pA ?_; (with_reducible refine (impl_ProgramFault_1.calls (rd l0 x8_1) false _ A5.out).mono ?_); rintro e w' ⟨rfl, ⟨nd, rfl⟩⟩; refine ⟨_, rfl, ?_⟩))
           go_roundg k1
           case measure => have := HK1.out; omega
           case rel => exact ⟨(wrap64 (x8_1 + 1)), pF, H', ⟨by have := HK1.out; omega⟩, pW⟩
       · rw [if_neg c4] at H
         exact absurd H (by simp)
     · rw [if_neg c3] at H
       exact absurd H (by simp)
   · rw [if_neg c2] at H
     have c2b0 : decide (x8_1 < (l0.length : Int)) = false := decide_eq_false c2
     clear c2
     obtain rfl := sj H
     go_wp2
     go_ret
     exact ⟨by first | rfl | (simp; done) | (simp [*]; done), pW⟩
end Go.Proofs.Ythjlbpgiaehjnaa.QFnExactPackTx
