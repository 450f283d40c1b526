-- written by this session's program (wip/tools/myprint.py)
import Derived.Test.YthjlbpgiaehjnaaQFnExactBlockRootx0
import Derived.Test.YthjlbpgiaehjnaaQFnExactBlockRootx4
import Derived.Test.YthjlbpgiaehjnaaQFnExactBlockRootx5
-- squeezed
namespace Go.Proofs.Ythjlbpgiaehjnaa.QFnExactBlockRoot
open Go.RowKit Go.Proofs.YthjlbpgiaehjnaaW.PrintWords Go.Proofs.YthjlbpgiaehjnaaW.PrintLast Go.Proofs.YthjlbpgiaehjnaaW.PrintMore
attribute [local go_sem] max2_int min2_int max_two min_two max_three min_three max_four min_four   -- for this text's walks alone
set_option linter.unusedVariables false
set_option linter.unusedSimpArgs false
set_option maxHeartbeats 8000000
set_option maxRecDepth 100000
def spec_l3Outs.l0 : Nat → List (S86) → Int → Int → Option (Int)
 | 0, _, _, _ => none
 | k + 1, x0, x3, x4 => if x4 < (x0.length : Int) then (if 0 ≤ x4 then ((spec_l1Amount.f ((rd_T86 x0 x4).f0)).bind fun t226 => (if t226 = true then ((spec_l2Fault.f k ((rd_T86 x0 x4).f1)).bind fun t228 => (if t228 = 0 then (spec_l3Outs.l0 k x0 (wrap64 (x3 + ((rd_T86 x0 x4).f0))) (wrap64 (x4 + 1))) else (some t228))) else (some 3))) else (none)) else ((spec_l1Amount.f x3).bind fun t224 => (if t224 = true then (some 0) else (some 7)))
def spec_l3Outs.f (k : Nat) (l0 : List (S86)) : Option (Int) := spec_l3Outs.l0 k l0 0 0
theorem spec_l3Outs.mono_l : ∀ k, (∀ y0 y1 y2, LeO (spec_l3Outs.l0 k y0 y1 y2) (spec_l3Outs.l0 (k + 1) y0 y1 y2))
 | 0 => fun _ _ _ r h => by simp [spec_l3Outs.l0] at h
 | k + 1 => by
  have ih0 := spec_l3Outs.mono_l k
  · intro y0 y1 y2
    unfold spec_l3Outs.l0
    repeat' with_reducible first | exact ih0 _ _ _ | exact spec_l2Fault.mono _ _ | exact LeO.refl _ | exact LeO.none _ | refine LeO.ite ?_ ?_ | refine LeO.bind ?_ (fun _ => ?_)
theorem spec_l3Outs.mono : ∀ a0 k, LeO (spec_l3Outs.f k a0) (spec_l3Outs.f (k + 1) a0) := by
 intro a0 k
 have ih0 := spec_l3Outs.mono_l k
 unfold spec_l3Outs.f
 repeat' with_reducible first | exact ih0 _ _ _ | exact spec_l2Fault.mono _ _ | exact LeO.refl _ | exact LeO.none _ | refine LeO.ite ?_ ?_ | refine LeO.bind ?_ (fun _ => ?_)
theorem spec_l3Outs.calls (k : Nat) (A0 : Option Addr) (c0 : Nat) (l0 : List (S86)) (r : Int) (w : World) (hr0 : Kd.C k86 w A0 l0.length l0) (hc0 : l0.length ≤ c0) (h : spec_l3Outs.f k l0 = some r) :
 Calls Try.prog 102 #[.slice A0 l0.length c0] w fun e w' => e = .returned (.int .i64 r) ∧ Drawn0 w w' := by
 have HR0 := am hr0; have HC0 := am hc0; clear hr0 hc0
 have H : (spec_l3Outs.l0 k l0 0 0) = some r := h
 clear h
 have H' := am H
 clear H
 go_enter Try.func102, Try.ntmps102
 go_wp2
 go_loopg [3, 4] k (fun kq v3 v4 w' => ∃ (x3_1 : Int) (x4_1 : Int), v3 = .int .i64 x3_1 ∧ v4 = .int .i64 x4_1 ∧ Aside0 (spec_l3Outs.l0 kq l0 x3_1 x4_1 = some r) ∧ Aside0 (kq ≤ k) ∧ Drawn0 w w')
 case atStart => exact ⟨(0), (0), pF, pF, H', ⟨Nat.le_refl _⟩, pW⟩
 case round =>
  clear H'
  obtain ⟨x3_1, x4_1, rfl, rfl, HA, HK1, ⟨m1, rfl⟩⟩ := hrel
  cases gk with
  | zero => exact absurd HA.out (by simp [spec_l3Outs.l0])
  | succ k1 =>
   have H := HA.out
   clear HA
   simp only [spec_l3Outs.l0] at H
   by_cases c2 : x4_1 < (l0.length : Int)
   · rw [if_pos c2] at H
     have c2b0 : decide (x4_1 < (l0.length : Int)) = true := dt c2
     clear c2
     by_cases c3 : 0 ≤ x4_1
     · rw [if_pos c3] at H
       have c3b0 : decide (0 ≤ x4_1) = true := dt c3
       clear c3
       obtain ⟨t226, A40, H⟩ := bO H
       replace H : (if t226 = true then ((spec_l2Fault.f k1 ((rd_T86 l0 x4_1).f1)).bind fun t228 => (if t228 = 0 then (spec_l3Outs.l0 k1 l0 (wrap64 (x3_1 + ((rd_T86 l0 x4_1).f0))) (wrap64 (x4_1 + 1))) else (some t228))) else (some 3)) = some r := H
       have A4 := am A40; clear A40
       by_cases c5 : t226 = true
       · subst c5
         have H1 : ((spec_l2Fault.f k1 ((rd_T86 l0 x4_1).f1)).bind fun t228 => (if t228 = 0 then (spec_l3Outs.l0 k1 l0 (wrap64 (x3_1 + ((rd_T86 l0 x4_1).f0))) (wrap64 (x4_1 + 1))) else (some t228))) = some r := by rw [if_pos rfl] at H; exact H
         clear H; have H := H1; clear H1
         obtain ⟨t228, A60, H⟩ := bO H
         replace H : (if t228 = 0 then (spec_l3Outs.l0 k1 l0 (wrap64 (x3_1 + ((rd_T86 l0 x4_1).f0))) (wrap64 (x4_1 + 1))) else (some t228)) = some r := H
         have A6 := am A60; clear A60
         by_cases c7 : t228 = 0
         · rw [if_pos c7] at H
           have c7b0 : (t228 == 0) = true := beq_iff_eq.mpr c7
           have c7b1 : (t228 != 0) = false := bne_eq_false_iff_eq.mpr c7
           clear c7
           have H' := am H
           clear H
           have p225 : 0 ≤ (x4_1 : Int) := pD
           have q225 : x4_1 < (l0.length : Int) := pD
           obtain ⟨ad225, A225_1, c225_1, e225, hx225_0, hx225_1, hl225_1, hi225_1⟩ := at_T86 HR0.out x4_1 p225 q225
           cases e225; have HR225_1 := am hi225_1; have HC225_1 := am hl225_1; clear hi225_1 hl225_1; replace p225 := eq_true p225; replace q225 := eq_true q225
           go_wp2_with (first | ((with_reducible refine gC (f := 138) rfl ?_); refine goesL_ (some 17) rfl rfl Try.func138 (by kernel_rfl) rfl #[.int .i64 ((rd_T86 l0 x4_1).f0)] rfl pA ?_; (with_reducible refine (spec_l1Amount.calls ((rd_T86 l0 x4_1).f0) true _ A4.out).mono ?_); rintro e w' ⟨rfl, ⟨nd, rfl⟩⟩; refine ⟨_, rfl, ?_⟩; have p227 : 0 ≤ (x4_1 : Int) := pD; have q227 : x4_1 < (l0.length : Int) := pD; obtain ⟨ad227, A227_1, c227_1, e227, hx227_0, hx227_1, hl227_1, hi227_1⟩ := at_T86 HR0.out x4_1 p227 q227; obtain rfl : ad225 = ad227 := (by injection e227); have HR227_1 := am hi227_1; have HC227_1 := am hl227_1; clear hi227_1 hl227_1; replace p227 := eq_true p227; replace q227 := eq_true q227; have ea_ := sj (hx225_1.symm.trans hx227_1); injection ea_ with ea_ en_ ec_; subst ea_; subst ec_; clear en_) | ((with_reducible refine gC (f := 139) rfl ?_); refine goesL_ (some 24) rfl rfl Try.func139 (by kernel_rfl) rfl #[.slice A225_1 ((rd_T86 l0 x4_1).f1).length c225_1] rfl pA ?_; (with_reducible refine (spec_l2Fault.calls k1 _ _ ((rd_T86 l0 x4_1).f1) t228 _ ?side1 ?side2 A6.out).mono ?_); (case side1 => exact pC HR227_1.out); (case side2 => exact HC227_1.out); rintro e w' ⟨rfl, ⟨nd, rfl⟩⟩; refine ⟨_, rfl, ?_⟩; have p229 : 0 ≤ (x4_1 : Int) := pD; have q229 : x4_1 < (l0.length : Int) := pD; obtain ⟨ad229, A229_1, c229_1, e229, hx229_0, hx229_1, hl229_1, hi229_1⟩ := at_T86 HR0.out x4_1 p229 q229; obtain rfl : ad225 = ad229 := (by injection e229); have HR229_1 := am hi229_1; have HC229_1 := am hl229_1; clear hi229_1 hl229_1; replace p229 := eq_true p229; replace q229 := eq_true q229; have ea_ := sj (hx225_1.symm.trans hx229_1); injection ea_ with ea_ en_ ec_; subst ea_; subst ec_; clear en_))
           go_roundg k1
           case measure => have := HK1.out; omega
           case rel => exact ⟨(wrap64 (x3_1 + ((rd_T86 l0 x4_1).f0))), (wrap64 (x4_1 + 1)), pF, pF, H', ⟨by have := HK1.out; omega⟩, pW⟩
         · rw [if_neg c7] at H
           have c7b0 : (t228 == 0) = false := beq_eq_false_iff_ne.mpr c7
           have c7b1 : (t228 != 0) = true := bne_iff_ne.mpr c7
           obtain rfl := sj H
           have p225 : 0 ≤ (x4_1 : Int) := pD
           have q225 : x4_1 < (l0.length : Int) := pD
           obtain ⟨ad225, A225_1, c225_1, e225, hx225_0, hx225_1, hl225_1, hi225_1⟩ := at_T86 HR0.out x4_1 p225 q225
           cases e225; have HR225_1 := am hi225_1; have HC225_1 := am hl225_1; clear hi225_1 hl225_1; replace p225 := eq_true p225; replace q225 := eq_true q225
           go_wp2_with (first | ((with_reducible refine gC (f := 138) rfl ?_); refine goesL_ (some 17) rfl rfl Try.func138 (by kernel_rfl) rfl #[.int .i64 ((rd_T86 l0 x4_1).f0)] rfl pA ?_; (with_reducible refine (spec_l1Amount.calls ((rd_T86 l0 x4_1).f0) true _ A4.out).mono ?_); rintro e w' ⟨rfl, ⟨nd, rfl⟩⟩; refine ⟨_, rfl, ?_⟩; have p227 : 0 ≤ (x4_1 : Int) := pD; have q227 : x4_1 < (l0.length : Int) := pD; obtain ⟨ad227, A227_1, c227_1, e227, hx227_0, hx227_1, hl227_1, hi227_1⟩ := at_T86 HR0.out x4_1 p227 q227; obtain rfl : ad225 = ad227 := (by injection e227); have HR227_1 := am hi227_1; have HC227_1 := am hl227_1; clear hi227_1 hl227_1; replace p227 := eq_true p227; replace q227 := eq_true q227; have ea_ := sj (hx225_1.symm.trans hx227_1); injection ea_ with ea_ en_ ec_; subst ea_; subst ec_; clear en_) | ((with_reducible refine gC (f := 139) rfl ?_); refine goesL_ (some 24) rfl rfl Try.func139 (by kernel_rfl) rfl #[.slice A225_1 ((rd_T86 l0 x4_1).f1).length c225_1] rfl pA ?_; (with_reducible refine (spec_l2Fault.calls k1 _ _ ((rd_T86 l0 x4_1).f1) t228 _ ?side1 ?side2 A6.out).mono ?_); (case side1 => exact pC HR227_1.out); (case side2 => exact HC227_1.out); rintro e w' ⟨rfl, ⟨nd, rfl⟩⟩; refine ⟨_, rfl, ?_⟩))
           go_ret
           exact ⟨by first | rfl | (simp; done) | (simp [*]; done), pW⟩
       · replace c5 := Bool.eq_false_iff.mpr c5
         subst c5
         have H1 : (some 3) = some r := by rw [if_neg (show ¬ (false = true) by decide)] at H; exact H
         clear H; have H := H1; clear H1
         obtain rfl := sj H
         have p225 : 0 ≤ (x4_1 : Int) := pD
         have q225 : x4_1 < (l0.length : Int) := pD
         obtain ⟨ad225, A225_1, c225_1, e225, hx225_0, hx225_1, hl225_1, hi225_1⟩ := at_T86 HR0.out x4_1 p225 q225
         cases e225; have HR225_1 := am hi225_1; have HC225_1 := am hl225_1; clear hi225_1 hl225_1; replace p225 := eq_true p225; replace q225 := eq_true q225
         go_wp2_with (first | ((with_reducible refine gC (f := 138) rfl ?_); refine goesL_ (some 17) rfl rfl Try.func138 (by kernel_rfl) rfl #[.int .i64 ((rd_T86 l0 x4_1).f0)] rfl pA ?_; (with_reducible refine (spec_l1Amount.calls ((rd_T86 l0 x4_1).f0) false _ A4.out).mono ?_); rintro e w' ⟨rfl, ⟨nd, rfl⟩⟩; refine ⟨_, rfl, ?_⟩))
         go_ret
         exact ⟨by first | rfl | (simp; done) | (simp [*]; done), pW⟩
     · rw [if_neg c3] at H
       exact absurd H (by simp)
   · rw [if_neg c2] at H
     have c2b0 : decide (x4_1 < (l0.length : Int)) = false := decide_eq_false c2
     clear c2
     obtain ⟨t224, A80, H⟩ := bO H
     replace H : (if t224 = true then (some 0) else (some 7)) = some r := H
     have A8 := am A80; clear A80
     by_cases c9 : t224 = true
     · subst c9
       have H1 : (some 0) = some r := by rw [if_pos rfl] at H; exact H
       clear H; have H := H1; clear H1
       obtain rfl := sj H
       go_wp2_with (first | ((with_reducible refine gC (f := 138) rfl ?_); refine goesL_ (some 36) rfl rfl Try.func138 (by kernel_rfl) rfl #[.int .i64 x3_1] rfl pA ?_; (with_reducible refine (spec_l1Amount.calls x3_1 true _ A8.out).mono ?_); rintro e w' ⟨rfl, ⟨nd, rfl⟩⟩; refine ⟨_, rfl, ?_⟩))
       go_ret
       exact ⟨by first | rfl | (simp; done) | (simp [*]; done), pW⟩
     · replace c9 := Bool.eq_false_iff.mpr c9
       subst c9
       have H1 : (some 7) = some r := by rw [if_neg (show ¬ (false = true) by decide)] at H; exact H
       clear H; have H := H1; clear H1
       obtain rfl := sj H
       go_wp2_with (first | ((with_reducible refine gC (f := 138) rfl ?_); refine goesL_ (some 36) rfl rfl Try.func138 (by kernel_rfl) rfl #[.int .i64 x3_1] rfl pA ?_; (with_reducible refine (spec_l1Amount.calls x3_1 false _ A8.out).mono ?_); rintro e w' ⟨rfl, ⟨nd, rfl⟩⟩; refine ⟨_, rfl, ?_⟩))
       go_ret
       exact ⟨by first | rfl | (simp; done) | (simp [*]; done), pW⟩
mutual
def spec_l3Fault_in.j0 : Nat → List (S27) → Bool → Option (Int)
 | 0, _, _ => none
 | k + 1, x0, x32 => if x32 = true then (some 2) else (spec_l3Fault_in.l0 k x0 0)
def spec_l3Fault_in.l0 : Nat → List (S27) → Int → Option (Int)
 | 0, _, _ => none
 | k + 1, x0, x3 => if 0 < (x0.length : Int) then (if x3 < (((rd_T27 x0 0).f1).length : Int) then ((spec_l3In.f k ((rd_T27 x0 0).f1) x3).bind fun t235 => (if t235 = 0 then (spec_l3Fault_in.l0 k x0 (wrap64 (x3 + 1))) else (some t235))) else ((spec_l3Outs.f k ((rd_T27 x0 0).f2)).bind fun t237 => (some t237))) else (none)
end
def spec_l3Fault_in.f (k : Nat) (l0 : List (S27)) : Option (Int) := if 0 < (l0.length : Int) then ((spec_l1In.f ((rd_T27 l0 0).f0) 0 65535).bind fun t231 => (if t231 = true then (if (((rd_T27 l0 0).f1).length : Int) > 4 then (spec_l3Fault_in.j0 k l0 true) else (if (((rd_T27 l0 0).f2).length : Int) < 1 then (spec_l3Fault_in.j0 k l0 true) else (spec_l3Fault_in.j0 k l0 (decide ((((rd_T27 l0 0).f2).length : Int) > 4))))) else (some 3))) else (none)
theorem spec_l3Fault_in.mono_l : ∀ k, (∀ y0 y1, LeO (spec_l3Fault_in.j0 k y0 y1) (spec_l3Fault_in.j0 (k + 1) y0 y1)) ∧ (∀ y0 y1, LeO (spec_l3Fault_in.l0 k y0 y1) (spec_l3Fault_in.l0 (k + 1) y0 y1))
 | 0 => ⟨fun _ _ r h => by simp [spec_l3Fault_in.j0] at h, fun _ _ r h => by simp [spec_l3Fault_in.l0] at h⟩
 | k + 1 => by
  obtain ⟨ih0, ih1⟩ := spec_l3Fault_in.mono_l k
  refine ⟨?_, ?_⟩
  · intro y0 y1
    unfold spec_l3Fault_in.j0
    repeat' with_reducible first | exact ih0 _ _ | exact ih1 _ _ | exact spec_l3In.mono _ _ _ | exact spec_l3Outs.mono _ _ | exact LeO.refl _ | exact LeO.none _ | refine LeO.ite ?_ ?_ | refine LeO.bind ?_ (fun _ => ?_)
  · intro y0 y1
    unfold spec_l3Fault_in.l0
    repeat' with_reducible first | exact ih0 _ _ | exact ih1 _ _ | exact spec_l3In.mono _ _ _ | exact spec_l3Outs.mono _ _ | exact LeO.refl _ | exact LeO.none _ | refine LeO.ite ?_ ?_ | refine LeO.bind ?_ (fun _ => ?_)
theorem spec_l3Fault_in.mono : ∀ a0 k, LeO (spec_l3Fault_in.f k a0) (spec_l3Fault_in.f (k + 1) a0) := by
 intro a0 k
 obtain ⟨ih0, ih1⟩ := spec_l3Fault_in.mono_l k
 unfold spec_l3Fault_in.f
 repeat' with_reducible first | exact ih0 _ _ | exact ih1 _ _ | exact spec_l3In.mono _ _ _ | exact spec_l3Outs.mono _ _ | exact LeO.refl _ | exact LeO.none _ | refine LeO.ite ?_ ?_ | refine LeO.bind ?_ (fun _ => ?_)
theorem spec_l3Fault_in.calls (k : Nat) (A0 : Option Addr) (c0 : Nat) (l0 : List (S27)) (r : Int) (w : World) (hr0 : Kd.C k27 w A0 l0.length l0) (hc0 : l0.length ≤ c0) (h : spec_l3Fault_in.f k l0 = some r) :
 Calls Try.prog 53 #[.pointer A0] w fun e w' => e = .returned (.int .i64 r) ∧ Below w.heap.size w w' := by
 have HR0 := am hr0; have HC0 := am hc0; clear hr0 hc0
 have HB := am (Below.refl w.heap.size w)
 have H : (if 0 < (l0.length : Int) then ((spec_l1In.f ((rd_T27 l0 0).f0) 0 65535).bind fun t231 => (if t231 = true then (if (((rd_T27 l0 0).f1).length : Int) > 4 then (spec_l3Fault_in.j0 k l0 true) else (if (((rd_T27 l0 0).f2).length : Int) < 1 then (spec_l3Fault_in.j0 k l0 true) else (spec_l3Fault_in.j0 k l0 (decide ((((rd_T27 l0 0).f2).length : Int) > 4))))) else (some 3))) else (none)) = some r := h
 clear h
 by_cases c2 : 0 < (l0.length : Int)
 · rw [if_pos c2] at H
   have c2b0 : decide (0 < (l0.length : Int)) = true := dt c2
   have c2b1 : decide (0 < l0.length) = true := dt (by omega)
   clear c2
   obtain ⟨t231, A30, H⟩ := bO H
   replace H : (if t231 = true then (if (((rd_T27 l0 0).f1).length : Int) > 4 then (spec_l3Fault_in.j0 k l0 true) else (if (((rd_T27 l0 0).f2).length : Int) < 1 then (spec_l3Fault_in.j0 k l0 true) else (spec_l3Fault_in.j0 k l0 (decide ((((rd_T27 l0 0).f2).length : Int) > 4))))) else (some 3)) = some r := H
   have A3 := am A30; clear A30
   by_cases c4 : t231 = true
   · subst c4
     have H1 : (if (((rd_T27 l0 0).f1).length : Int) > 4 then (spec_l3Fault_in.j0 k l0 true) else (if (((rd_T27 l0 0).f2).length : Int) < 1 then (spec_l3Fault_in.j0 k l0 true) else (spec_l3Fault_in.j0 k l0 (decide ((((rd_T27 l0 0).f2).length : Int) > 4))))) = some r := by rw [if_pos rfl] at H; exact H
     clear H; have H := H1; clear H1; have HC5 := am H; clear H
     have p230 : 0 ≤ (0 : Int) := (by omega)
     have q230 : 0 < (l0.length : Int) := pD
     obtain ⟨ad230, A230_1, c230_1, A230_2, c230_2, e230, hx230_0, hx230_1, hx230_2, hl230_1, hi230_1, hl230_2, hi230_2⟩ := at_T27 HR0.out 0 p230 q230
     cases e230
     have qi230 : (0 < l0.length) = True := eq_true (by omega)
     (try rw [z0, zm, az] at hx230_0); (try rw [z0, zm, az] at hx230_1); (try rw [z0, zm, az] at hx230_2); have HR230_1 := am hi230_1; have HC230_1 := am hl230_1; clear hi230_1 hl230_1; have HR230_2 := am hi230_2; have HC230_2 := am hl230_2; clear hi230_2 hl230_2; replace p230 := eq_true p230; replace q230 := eq_true q230
     go_enter Try.func53, Try.ntmps53
     go_upto_region 3 with (first | ((with_reducible refine gC (f := 81) rfl ?_); refine goesL_ (some 9) rfl rfl Try.func81 (by kernel_rfl) rfl #[.int .i64 ((rd_T27 l0 0).f0), .int .i64 0, .int .i64 65535] rfl pA ?_; (with_reducible refine (spec_l1In.calls ((rd_T27 l0 0).f0) 0 65535 true _ A3.out).mono ?_); rintro e w' ⟨rfl, ⟨nd, rfl⟩⟩; refine ⟨_, rfl, ?_⟩))
     (try simp only [Act.put, List.setIfInBounds_toArray, List.set_cons_zero, List.set_cons_succ])
     go_cut [32] (fun v32 wc => ∃ (kq : Nat) (x32_4 : Bool), v32 = .bool x32_4 ∧ Aside0 (spec_l3Fault_in.j0 kq l0 x32_4 = some r) ∧ Aside0 (kq ≤ k) ∧ Aside0 (Below w.heap.size w wc))
     case first =>
      have H := HC5.out
      clear HC5
      by_cases c6 : (((rd_T27 l0 0).f1).length : Int) > 4
      · rw [if_pos c6] at H
        have c6b0 : decide (4 < (((rd_T27 l0 0).f1).length : Int)) = true := dt c6
        have c6b1 : decide (4 < ((rd_T27 l0 0).f1).length) = true := dt (by omega)
        clear c6
        (first | rw [c6b0] | (simp only [i64_w, i32_w]; rw [c6b0]) | skip)
        have H' := am H
        clear H
        have p232 : 0 ≤ (0 : Int) := (by omega)
        have q232 : 0 < (l0.length : Int) := pD
        (try clear hx230_0); (try clear hx230_1); (try clear hx230_2); (try clear hHeld)
        obtain ⟨ad232, A232_1, c232_1, A232_2, c232_2, e232, hx232_0, hx232_1, hx232_2, hl232_1, hi232_1, hl232_2, hi232_2⟩ := at_T27 HR0.out 0 p232 q232
        obtain rfl : ad230 = ad232 := (by injection e232)
        have qi232 : (0 < l0.length) = True := eq_true (by omega)
        (try rw [z0, zm, az] at hx232_0); (try rw [z0, zm, az] at hx232_1); (try rw [z0, zm, az] at hx232_2); replace hx232_0 := cb HB hx232_0; replace hx232_1 := cb HB hx232_1; replace hx232_2 := cb HB hx232_2; have HR232_1 := am hi232_1; have HC232_1 := am hl232_1; clear hi232_1 hl232_1; have HR232_2 := am hi232_2; have HC232_2 := am hl232_2; clear hi232_2 hl232_2; replace p232 := eq_true p232; replace q232 := eq_true q232
        go_wp2
        go_meet
        case rel => exact ⟨_, (true), pF, H', ⟨by first | omega | exact Nat.le_refl _⟩, ⟨pB⟩⟩
      · rw [if_neg c6] at H
        have c6b0 : decide (4 < (((rd_T27 l0 0).f1).length : Int)) = false := decide_eq_false c6
        have c6b1 : decide (4 < ((rd_T27 l0 0).f1).length) = false := decide_eq_false (by omega)
        clear c6
        (first | rw [c6b0] | (simp only [i64_w, i32_w]; rw [c6b0]) | skip)
        by_cases c7 : (((rd_T27 l0 0).f2).length : Int) < 1
        · rw [if_pos c7] at H
          have c7b0 : decide ((((rd_T27 l0 0).f2).length : Int) < 1) = true := dt c7
          have c7b1 : decide (((rd_T27 l0 0).f2).length < 1) = true := dt (by omega)
          clear c7
          have H' := am H
          clear H
          have p232 : 0 ≤ (0 : Int) := (by omega)
          have q232 : 0 < (l0.length : Int) := pD
          obtain ⟨ad232, A232_1, c232_1, A232_2, c232_2, e232, hx232_0, hx232_1, hx232_2, hl232_1, hi232_1, hl232_2, hi232_2⟩ := at_T27 HR0.out 0 p232 q232
          obtain rfl : ad230 = ad232 := (by injection e232)
          have qi232 : (0 < l0.length) = True := eq_true (by omega)
          (try rw [z0, zm, az] at hx232_0); (try rw [z0, zm, az] at hx232_1); (try rw [z0, zm, az] at hx232_2); replace hx232_0 := cb HB hx232_0; replace hx232_1 := cb HB hx232_1; replace hx232_2 := cb HB hx232_2; have HR232_1 := am hi232_1; have HC232_1 := am hl232_1; clear hi232_1 hl232_1; have HR232_2 := am hi232_2; have HC232_2 := am hl232_2; clear hi232_2 hl232_2; replace p232 := eq_true p232; replace q232 := eq_true q232
          go_wp2
          go_meet
          case rel => exact ⟨_, (true), pF, H', ⟨by first | omega | exact Nat.le_refl _⟩, ⟨pB⟩⟩
        · rw [if_neg c7] at H
          have c7b0 : decide ((((rd_T27 l0 0).f2).length : Int) < 1) = false := decide_eq_false c7
          have c7b1 : decide (((rd_T27 l0 0).f2).length < 1) = false := decide_eq_false (by omega)
          clear c7
          have H' := am H
          clear H
          have p232 : 0 ≤ (0 : Int) := (by omega)
          have q232 : 0 < (l0.length : Int) := pD
          obtain ⟨ad232, A232_1, c232_1, A232_2, c232_2, e232, hx232_0, hx232_1, hx232_2, hl232_1, hi232_1, hl232_2, hi232_2⟩ := at_T27 HR0.out 0 p232 q232
          obtain rfl : ad230 = ad232 := (by injection e232)
          have qi232 : (0 < l0.length) = True := eq_true (by omega)
          (try rw [z0, zm, az] at hx232_0); (try rw [z0, zm, az] at hx232_1); (try rw [z0, zm, az] at hx232_2); replace hx232_0 := cb HB hx232_0; replace hx232_1 := cb HB hx232_1; replace hx232_2 := cb HB hx232_2; have HR232_1 := am hi232_1; have HC232_1 := am hl232_1; clear hi232_1 hl232_1; have HR232_2 := am hi232_2; have HC232_2 := am hl232_2; clear hi232_2 hl232_2; replace p232 := eq_true p232; replace q232 := eq_true q232
          go_wp2
          go_meet
          case rel => exact ⟨_, (decide ((((rd_T27 l0 0).f2).length : Int) > 4)), pF, H', ⟨by first | omega | exact Nat.le_refl _⟩, ⟨pB⟩⟩
     case rest =>
      clear HC5; (try clear c2); (try clear c2b0); (try clear c2b1); (try clear c4); (try clear hx230_0); (try clear hx230_1); (try clear hx230_2); (try clear p230); (try clear q230)
      obtain ⟨kq, x32_4, rfl, HA, HJ4, HB⟩ := hcut
      cases kq with
      | zero => exact absurd HA.out (by simp [spec_l3Fault_in.j0])
      | succ kj4 =>
       have H := HA.out
       clear HA
       simp only [spec_l3Fault_in.j0] at H
       by_cases c8 : x32_4 = true
       · subst c8
         have H1 : (some 2) = some r := by rw [if_pos rfl] at H; exact H
         clear H; have H := H1; clear H1
         obtain rfl := sj H
         go_wp2
         go_ret
         exact ⟨pE, pB⟩
       · replace c8 := Bool.eq_false_iff.mpr c8
         subst c8
         have H1 : (spec_l3Fault_in.l0 kj4 l0 0) = some r := by rw [if_neg (show ¬ (false = true) by decide)] at H; exact H
         clear H; have H := H1; clear H1
         have H' := am H
         clear H
         go_wp2
         go_loopg [3] kj4 (fun kq v3 w' => ∃ (x3_2 : Int), v3 = .int .i64 x3_2 ∧ Aside0 (spec_l3Fault_in.l0 kq l0 x3_2 = some r) ∧ Aside0 (kq ≤ kj4) ∧ Aside0 (Below w.heap.size w w'))
         case atStart => exact ⟨(0), pF, H', ⟨Nat.le_refl _⟩, ⟨pB⟩⟩
         case round =>
          clear H'
          (try clear c2); (try clear c2b0); (try clear c2b1); (try clear c4); (try clear c8); (try clear hx230_0); (try clear hx230_1); (try clear hx230_2); (try clear p230); (try clear q230)
          obtain ⟨x3_2, rfl, HA, HK2, HB⟩ := hrel
          cases gk with
          | zero => exact absurd HA.out (by simp [spec_l3Fault_in.l0])
          | succ k2 =>
           have H := HA.out
           clear HA
           simp only [spec_l3Fault_in.l0] at H
           by_cases c9 : 0 < (l0.length : Int)
           · rw [if_pos c9] at H
             have c9b0 : decide (0 < (l0.length : Int)) = true := dt c9
             have c9b1 : decide (0 < l0.length) = true := dt (by omega)
             clear c9
             by_cases c10 : x3_2 < (((rd_T27 l0 0).f1).length : Int)
             · rw [if_pos c10] at H
               have c10b0 : decide (x3_2 < (((rd_T27 l0 0).f1).length : Int)) = true := dt c10
               clear c10
               obtain ⟨t235, A110, H⟩ := bO H
               replace H : (if t235 = 0 then (spec_l3Fault_in.l0 k2 l0 (wrap64 (x3_2 + 1))) else (some t235)) = some r := H
               have A11 := am A110; clear A110
               by_cases c12 : t235 = 0
               · rw [if_pos c12] at H
                 have c12b0 : (t235 == 0) = true := beq_iff_eq.mpr c12
                 have c12b1 : (t235 != 0) = false := bne_eq_false_iff_eq.mpr c12
                 clear c12
                 have H' := am H
                 clear H
                 have p233 : 0 ≤ (0 : Int) := (by omega)
                 have q233 : 0 < (l0.length : Int) := pD
                 obtain ⟨ad233, A233_1, c233_1, A233_2, c233_2, e233, hx233_0, hx233_1, hx233_2, hl233_1, hi233_1, hl233_2, hi233_2⟩ := at_T27 HR0.out 0 p233 q233
                 obtain rfl : ad230 = ad233 := (by injection e233)
                 have qi233 : (0 < l0.length) = True := eq_true (by omega)
                 (try rw [z0, zm, az] at hx233_0); (try rw [z0, zm, az] at hx233_1); (try rw [z0, zm, az] at hx233_2); replace hx233_0 := cb HB hx233_0; replace hx233_1 := cb HB hx233_1; replace hx233_2 := cb HB hx233_2; have HR233_1 := am hi233_1; have HC233_1 := am hl233_1; clear hi233_1 hl233_1; have HR233_2 := am hi233_2; have HC233_2 := am hl233_2; clear hi233_2 hl233_2; replace p233 := eq_true p233; replace q233 := eq_true q233
                 have p234 : 0 ≤ (0 : Int) := (by omega)
                 have q234 : 0 < (l0.length : Int) := pD
                 (try clear hx233_0); (try clear hHeld)
                 obtain ⟨ad234, A234_1, c234_1, A234_2, c234_2, e234, hx234_0, hx234_1, hx234_2, hl234_1, hi234_1, hl234_2, hi234_2⟩ := at_T27 HR0.out 0 p234 q234
                 obtain rfl : ad230 = ad234 := (by injection e234)
                 have qi234 : (0 < l0.length) = True := eq_true (by omega)
                 (try rw [z0, zm, az] at hx234_0); (try rw [z0, zm, az] at hx234_1); (try rw [z0, zm, az] at hx234_2); replace hx234_0 := cb HB hx234_0; replace hx234_1 := cb HB hx234_1; replace hx234_2 := cb HB hx234_2; have HR234_1 := am hi234_1; have HC234_1 := am hl234_1; clear hi234_1 hl234_1; have HR234_2 := am hi234_2; have HC234_2 := am hl234_2; clear hi234_2 hl234_2; replace p234 := eq_true p234; replace q234 := eq_true q234
                 have ea_ := sj (hx233_1.symm.trans hx234_1)
                 injection ea_ with ea_ en_ ec_
                 subst ea_; subst ec_; clear en_
                 have ea_ := sj (hx233_2.symm.trans hx234_2)
                 injection ea_ with ea_ en_ ec_
                 subst ea_; subst ec_; clear en_
                 go_wp2_with (first | ((with_reducible refine gC (f := 101) rfl ?_); refine goesL_ (some 47) rfl rfl Try.func101 (by kernel_rfl) rfl #[.slice A233_1 ((rd_T27 l0 0).f1).length c233_1, .int .i64 x3_2] rfl pA ?_; (with_reducible refine (spec_l3In.calls k2 _ _ ((rd_T27 l0 0).f1) x3_2 t235 _ ?side1 ?side2 A11.out).mono ?_); (case side1 => exact pC (Kd.C_below HR234_1.out HB.out)); (case side2 => exact HC234_1.out); rintro e w' ⟨rfl, ⟨nd, rfl⟩⟩; refine ⟨_, rfl, ?_⟩))
                 go_roundg k2
                 case measure => have := HJ4.out; have := HK2.out; omega
                 case rel => exact ⟨(wrap64 (x3_2 + 1)), pF, H', ⟨by have := HJ4.out; have := HK2.out; omega⟩, ⟨pB⟩⟩
               · rw [if_neg c12] at H
                 have c12b0 : (t235 == 0) = false := beq_eq_false_iff_ne.mpr c12
                 have c12b1 : (t235 != 0) = true := bne_iff_ne.mpr c12
                 obtain rfl := sj H
                 have p233 : 0 ≤ (0 : Int) := (by omega)
                 have q233 : 0 < (l0.length : Int) := pD
                 obtain ⟨ad233, A233_1, c233_1, A233_2, c233_2, e233, hx233_0, hx233_1, hx233_2, hl233_1, hi233_1, hl233_2, hi233_2⟩ := at_T27 HR0.out 0 p233 q233
                 obtain rfl : ad230 = ad233 := (by injection e233)
                 have qi233 : (0 < l0.length) = True := eq_true (by omega)
                 (try rw [z0, zm, az] at hx233_0); (try rw [z0, zm, az] at hx233_1); (try rw [z0, zm, az] at hx233_2); replace hx233_0 := cb HB hx233_0; replace hx233_1 := cb HB hx233_1; replace hx233_2 := cb HB hx233_2; have HR233_1 := am hi233_1; have HC233_1 := am hl233_1; clear hi233_1 hl233_1; have HR233_2 := am hi233_2; have HC233_2 := am hl233_2; clear hi233_2 hl233_2; replace p233 := eq_true p233; replace q233 := eq_true q233
                 have p234 : 0 ≤ (0 : Int) := (by omega)
                 have q234 : 0 < (l0.length : Int) := pD
                 (try clear hx233_0); (try clear hHeld)
                 obtain ⟨ad234, A234_1, c234_1, A234_2, c234_2, e234, hx234_0, hx234_1, hx234_2, hl234_1, hi234_1, hl234_2, hi234_2⟩ := at_T27 HR0.out 0 p234 q234
                 obtain rfl : ad230 = ad234 := (by injection e234)
                 have qi234 : (0 < l0.length) = True := eq_true (by omega)
                 (try rw [z0, zm, az] at hx234_0); (try rw [z0, zm, az] at hx234_1); (try rw [z0, zm, az] at hx234_2); replace hx234_0 := cb HB hx234_0; replace hx234_1 := cb HB hx234_1; replace hx234_2 := cb HB hx234_2; have HR234_1 := am hi234_1; have HC234_1 := am hl234_1; clear hi234_1 hl234_1; have HR234_2 := am hi234_2; have HC234_2 := am hl234_2; clear hi234_2 hl234_2; replace p234 := eq_true p234; replace q234 := eq_true q234
                 have ea_ := sj (hx233_1.symm.trans hx234_1)
                 injection ea_ with ea_ en_ ec_
                 subst ea_; subst ec_; clear en_
                 have ea_ := sj (hx233_2.symm.trans hx234_2)
                 injection ea_ with ea_ en_ ec_
                 subst ea_; subst ec_; clear en_
                 go_wp2_with (first | ((with_reducible refine gC (f := 101) rfl ?_); refine goesL_ (some 47) rfl rfl Try.func101 (by kernel_rfl) rfl #[.slice A233_1 ((rd_T27 l0 0).f1).length c233_1, .int .i64 x3_2] rfl pA ?_; (with_reducible refine (spec_l3In.calls k2 _ _ ((rd_T27 l0 0).f1) x3_2 t235 _ ?side1 ?side2 A11.out).mono ?_); (case side1 => exact pC (Kd.C_below HR234_1.out HB.out)); (case side2 => exact HC234_1.out); rintro e w' ⟨rfl, ⟨nd, rfl⟩⟩; refine ⟨_, rfl, ?_⟩))
                 go_ret
                 exact ⟨pE, pB⟩
             · rw [if_neg c10] at H
               have c10b0 : decide (x3_2 < (((rd_T27 l0 0).f1).length : Int)) = false := decide_eq_false c10
               clear c10
               obtain ⟨t237, A130, H⟩ := bO H
               replace H : (some t237) = some r := H
               have A13 := am A130; clear A130
               obtain rfl := sj H
               have p233 : 0 ≤ (0 : Int) := (by omega)
               have q233 : 0 < (l0.length : Int) := pD
               obtain ⟨ad233, A233_1, c233_1, A233_2, c233_2, e233, hx233_0, hx233_1, hx233_2, hl233_1, hi233_1, hl233_2, hi233_2⟩ := at_T27 HR0.out 0 p233 q233
               obtain rfl : ad230 = ad233 := (by injection e233)
               have qi233 : (0 < l0.length) = True := eq_true (by omega)
               (try rw [z0, zm, az] at hx233_0); (try rw [z0, zm, az] at hx233_1); (try rw [z0, zm, az] at hx233_2); replace hx233_0 := cb HB hx233_0; replace hx233_1 := cb HB hx233_1; replace hx233_2 := cb HB hx233_2; have HR233_1 := am hi233_1; have HC233_1 := am hl233_1; clear hi233_1 hl233_1; have HR233_2 := am hi233_2; have HC233_2 := am hl233_2; clear hi233_2 hl233_2; replace p233 := eq_true p233; replace q233 := eq_true q233
               have p236 : 0 ≤ (0 : Int) := (by omega)
               have q236 : 0 < (l0.length : Int) := pD
               (try clear hx233_0); (try clear hHeld)
               obtain ⟨ad236, A236_1, c236_1, A236_2, c236_2, e236, hx236_0, hx236_1, hx236_2, hl236_1, hi236_1, hl236_2, hi236_2⟩ := at_T27 HR0.out 0 p236 q236
               obtain rfl : ad230 = ad236 := (by injection e236)
               have qi236 : (0 < l0.length) = True := eq_true (by omega)
               (try rw [z0, zm, az] at hx236_0); (try rw [z0, zm, az] at hx236_1); (try rw [z0, zm, az] at hx236_2); replace hx236_0 := cb HB hx236_0; replace hx236_1 := cb HB hx236_1; replace hx236_2 := cb HB hx236_2; have HR236_1 := am hi236_1; have HC236_1 := am hl236_1; clear hi236_1 hl236_1; have HR236_2 := am hi236_2; have HC236_2 := am hl236_2; clear hi236_2 hl236_2; replace p236 := eq_true p236; replace q236 := eq_true q236
               have ea_ := sj (hx233_1.symm.trans hx236_1)
               injection ea_ with ea_ en_ ec_
               subst ea_; subst ec_; clear en_
               have ea_ := sj (hx233_2.symm.trans hx236_2)
               injection ea_ with ea_ en_ ec_
               subst ea_; subst ec_; clear en_
               go_wp2_with (first | ((with_reducible refine gC (f := 102) rfl ?_); refine goesL_ (some 55) rfl rfl Try.func102 (by kernel_rfl) rfl #[.slice A233_2 ((rd_T27 l0 0).f2).length c233_2] rfl pA ?_; (with_reducible refine (spec_l3Outs.calls k2 _ _ ((rd_T27 l0 0).f2) t237 _ ?side1 ?side2 A13.out).mono ?_); (case side1 => exact pC (Kd.C_below HR236_2.out HB.out)); (case side2 => exact HC236_2.out); rintro e w' ⟨rfl, ⟨nd, rfl⟩⟩; refine ⟨_, rfl, ?_⟩))
               go_ret
               exact ⟨pE, pB⟩
           · rw [if_neg c9] at H
             exact absurd H (by simp)
   · replace c4 := Bool.eq_false_iff.mpr c4
     subst c4
     have H1 : (some 3) = some r := by rw [if_neg (show ¬ (false = true) by decide)] at H; exact H
     clear H; have H := H1; clear H1
     obtain rfl := sj H
     have p230 : 0 ≤ (0 : Int) := (by omega)
     have q230 : 0 < (l0.length : Int) := pD
     obtain ⟨ad230, A230_1, c230_1, A230_2, c230_2, e230, hx230_0, hx230_1, hx230_2, hl230_1, hi230_1, hl230_2, hi230_2⟩ := at_T27 HR0.out 0 p230 q230
     cases e230
     have qi230 : (0 < l0.length) = True := eq_true (by omega)
     (try rw [z0, zm, az] at hx230_0); (try rw [z0, zm, az] at hx230_1); (try rw [z0, zm, az] at hx230_2); have HR230_1 := am hi230_1; have HC230_1 := am hl230_1; clear hi230_1 hl230_1; have HR230_2 := am hi230_2; have HC230_2 := am hl230_2; clear hi230_2 hl230_2; replace p230 := eq_true p230; replace q230 := eq_true q230
     go_enter Try.func53, Try.ntmps53
     go_wp2_with (first | ((with_reducible refine gC (f := 81) rfl ?_); refine goesL_ (some 9) rfl rfl Try.func81 (by kernel_rfl) rfl #[.int .i64 ((rd_T27 l0 0).f0), .int .i64 0, .int .i64 65535] rfl pA ?_; (with_reducible refine (spec_l1In.calls ((rd_T27 l0 0).f0) 0 65535 false _ A3.out).mono ?_); rintro e w' ⟨rfl, ⟨nd, rfl⟩⟩; refine ⟨_, rfl, ?_⟩))
     go_ret
     exact ⟨pE, pB⟩
 · rw [if_neg c2] at H
   exact absurd H (by simp)
def spec_l3Fault.f (k : Nat) (a0_0 : Int) (l0_1 : List (S34)) (l0_2 : List (S86)) : Option (Int) := spec_l3Fault_in.f k [(⟨a0_0, l0_1, l0_2⟩ : S27)]
theorem spec_l3Fault.mono : ∀ (a0_0 : Int) (l0_1 : List (S34)) (l0_2 : List (S86)) (k : Nat), LeO (spec_l3Fault.f k a0_0 l0_1 l0_2) (spec_l3Fault.f (k + 1) a0_0 l0_1 l0_2) := fun a0_0 l0_1 l0_2 k => spec_l3Fault_in.mono [(⟨a0_0, l0_1, l0_2⟩ : S27)] k
set_option maxHeartbeats 8000000 in
theorem spec_l3Fault.calls (k : Nat) (a0_0 : Int) (A0_1 : Option Addr) (c0_1 : Nat) (l0_1 : List (S34)) (A0_2 : Option Addr) (c0_2 : Nat) (l0_2 : List (S86)) (r : Int) (w : World) (hr0_1 : Kd.C k34 w A0_1 l0_1.length l0_1) (hc0_1 : l0_1.length ≤ c0_1) (hr0_2 : Kd.C k86 w A0_2 l0_2.length l0_2) (hc0_2 : l0_2.length ≤ c0_2) (h : spec_l3Fault.f k a0_0 l0_1 l0_2 = some r) {pp0 : Addr} (hpp0_0 : w.cell? pp0 = some (.int .i64 a0_0)) (hpp0_1 : w.cell? ⟨pp0.block, pp0.off + 1, none⟩ = some (.slice A0_1 l0_1.length c0_1)) (hpp0_2 : w.cell? ⟨pp0.block, pp0.off + 2, none⟩ = some (.slice A0_2 l0_2.length c0_2)) :
 Calls Try.prog 53 #[.pointer (some pp0)] w fun e w' => e = .returned (.int .i64 r) ∧ Below w.heap.size w w' := by
 have o0 : Kd.C k27 w (some pp0) 1 [(⟨a0_0, l0_1, l0_2⟩ : S27)] := by
  refine ⟨rfl, by decide, fun _ => ⟨pp0, rfl, fun j p hj => ?_⟩⟩
  cases j with
  | succ j => simp at hj
  | zero =>
   obtain rfl : (⟨a0_0, l0_1, l0_2⟩ : S27) = p := by simpa using hj
   refine ⟨_, rfl, k27_mk w _ hc0_1 hr0_1 hc0_2 hr0_2, fun i u hu => ?_⟩
   match i, hu with
   | 0, hu => obtain rfl := sj hu; exact hpp0_0
   | 1, hu => obtain rfl := sj hu; exact hpp0_1
   | 2, hu => obtain rfl := sj hu; exact hpp0_2
 exact spec_l3Fault_in.calls k (some pp0) 1 [(⟨a0_0, l0_1, l0_2⟩ : S27)] r w o0 (Nat.le_refl 1) h
def spec_l3Put.f (a0 : Int) : Option (List Int) := if a0 < 253 then (some (([(a0) % 256] : List Int))) else (some (([253, (Int.tmod a0 256) % 256, (wrap64 (Int.tdiv a0 256)) % 256] : List Int)))
theorem spec_l3Put.calls (a0 : Int) (r : List Int) (w : World) (h : spec_l3Put.f a0 = some r) :
 Calls Try.prog 80 #[.int .i64 a0] w fun e w' => ∃ v0_ : Value, e = .returned (v0_) ∧ Kd.R (Kd.int .u8) 5 w' w.heap.size (fun _ => True) v0_ r ∧ Below w.heap.size w w' := by
 have HB := am (Below.refl w.heap.size w)
 have H : (if a0 < 253 then (some (([(a0) % 256] : List Int))) else (some (([253, (Int.tmod a0 256) % 256, (wrap64 (Int.tdiv a0 256)) % 256] : List Int)))) = some r := h
 clear h
 by_cases c2 : a0 < 253
 · rw [if_pos c2] at H
   have c2b0 : decide (a0 < 253) = true := dt c2
   clear c2
   obtain ⟨y238, hy238⟩ : ∃ y_ : List Int, y_ = (([(a0) % 256] : List Int)) := ⟨_, rfl⟩
   replace H : (some y238) = some r := by first | (rw [hy238]; with_reducible exact H) | (have H2_ := (Option.bind_some _ _).symm.trans H; rw [hy238]; with_reducible exact H2_) | (have H2_ := (Option.bind_some _ _).symm.trans H; with_reducible exact H2_) | with_reducible exact H | (rw [hy238]; exact H) | exact H
   have Ny238 := am hy238; clear hy238
   obtain rfl := sj H
   go_enter Try.func80, Try.ntmps80
   go_wp2_with (first | ((with_reducible refine gate_dst (N := 7) rfl ?_); refine Kd.R_lit (Kd.int .u8) _ 5 ?hg (N := 7) ?hd (xs := ([(a0) % 256] : List Int)) (inner := [.int .u8 ((a0) % 256)]) (ok := fun _ => True) (okp := fun _ => True) ?hr ?hp (fun _ hk => hk) trivial (Below.refl _ _) (Nat.le_refl _) (by simp) ?_; (case hd => rfl); (case hg => rfl); (case hr => first | (go_simp; done) | (go_simp; rfl)); (case hp => exact (Reps.one (show Kd.M (Kd.int .u8) _ _ _ ((a0) % 256) [.int .u8 ((a0) % 256)] from rfl) (Reps.none _ _))); intro v239 w3 ho4 hb hg_ hnew_; clear hg_ hnew_; (first | rw [← Ny238.out] at ho4 | (simp only [Int.reduceToNat] at ho4; rw [← Ny238.out] at ho4)); have n_ := t2 (rL ho4 (bs_ pB)) (bz_ pB hb); clear HB; obtain ⟨HO240, HB⟩ := n_; clear hb ho4))
   go_ret
   exact ⟨_, pE, (pR HO240), pB⟩
 · rw [if_neg c2] at H
   have c2b0 : decide (a0 < 253) = false := decide_eq_false c2
   clear c2
   obtain ⟨y241, hy241⟩ : ∃ y_ : List Int, y_ = (([253, (Int.tmod a0 256) % 256, (wrap64 (Int.tdiv a0 256)) % 256] : List Int)) := ⟨_, rfl⟩
   replace H : (some y241) = some r := by first | (rw [hy241]; with_reducible exact H) | (have H2_ := (Option.bind_some _ _).symm.trans H; rw [hy241]; with_reducible exact H2_) | (have H2_ := (Option.bind_some _ _).symm.trans H; with_reducible exact H2_) | with_reducible exact H | (rw [hy241]; exact H) | exact H
   have Ny241 := am hy241; clear hy241
   obtain rfl := sj H
   go_enter Try.func80, Try.ntmps80
   go_wp2_with (first | ((with_reducible refine gate_dst (N := 14) rfl ?_); refine Kd.R_lit (Kd.int .u8) _ 5 ?hg (N := 14) ?hd (xs := ([253, (Int.tmod a0 256) % 256, (wrap64 (Int.tdiv a0 256)) % 256] : List Int)) (inner := [.int .u8 253, .int .u8 ((Int.tmod a0 256) % 256), .int .u8 ((wrap64 (Int.tdiv a0 256)) % 256)]) (ok := fun _ => True) (okp := fun _ => True) ?hr ?hp (fun _ hk => hk) trivial (Below.refl _ _) (Nat.le_refl _) (by simp) ?_; (case hd => rfl); (case hg => rfl); (case hr => first | (go_simp; done) | (go_simp; rfl)); (case hp => exact (Reps.one (show Kd.M (Kd.int .u8) _ _ _ 253 [.int .u8 253] from rfl) (Reps.one (show Kd.M (Kd.int .u8) _ _ _ ((Int.tmod a0 256) % 256) [.int .u8 ((Int.tmod a0 256) % 256)] from rfl) (Reps.one (show Kd.M (Kd.int .u8) _ _ _ ((wrap64 (Int.tdiv a0 256)) % 256) [.int .u8 ((wrap64 (Int.tdiv a0 256)) % 256)] from rfl) (Reps.none _ _))))); intro v242 w5 ho6 hb hg_ hnew_; clear hg_ hnew_; (first | rw [← Ny241.out] at ho6 | (simp only [Int.reduceToNat] at ho6; rw [← Ny241.out] at ho6)); have n_ := t2 (rL ho6 (bs_ pB)) (bz_ pB hb); clear HB; obtain ⟨HO243, HB⟩ := n_; clear hb ho6))
   go_ret
   exact ⟨_, pE, (pR HO243), pB⟩
def spec_l3Big.f (a0 : Int) : Option (List Int) := (spec_l3Put.f (Int.tmod a0 65536)).bind fun t244 => ((spec_l3Put.f (wrap64 (Int.tdiv a0 65536))).bind fun t247 => (if t244.length + t247.length < 140737488355328 then (some (t244 ++ t247)) else (none)))
theorem spec_l3Big.calls (a0 : Int) (r : List Int) (w : World) (h : spec_l3Big.f a0 = some r) :
 Calls Try.prog 125 #[.int .i64 a0] w fun e w' => ∃ v0_ : Value, e = .returned (v0_) ∧ Kd.R (Kd.int .u8) 5 w' w.heap.size (fun _ => True) v0_ r ∧ Below w.heap.size w w' := by
 have HB := am (Below.refl w.heap.size w)
 have H : ((spec_l3Put.f (Int.tmod a0 65536)).bind fun t244 => ((spec_l3Put.f (wrap64 (Int.tdiv a0 65536))).bind fun t247 => (if t244.length + t247.length < 140737488355328 then (some (t244 ++ t247)) else (none)))) = some r := h
 clear h
 obtain ⟨t244, A20, H⟩ := bO H
 replace H : ((spec_l3Put.f (wrap64 (Int.tdiv a0 65536))).bind fun t247 => (if t244.length + t247.length < 140737488355328 then (some (t244 ++ t247)) else (none))) = some r := H
 have A2 := am A20; clear A20
 obtain ⟨t247, A30, H⟩ := bO H
 replace H : (if t244.length + t247.length < 140737488355328 then (some (t244 ++ t247)) else (none)) = some r := H
 have A3 := am A30; clear A30
 by_cases c4 : t244.length + t247.length < 140737488355328
 · rw [if_pos c4] at H
   have LMc4 := am c4; clear c4
   obtain ⟨y250, hy250⟩ : ∃ y_ : List Int, y_ = (t244 ++ t247) := ⟨_, rfl⟩
   replace H : (some y250) = some r := by first | (rw [hy250]; with_reducible exact H) | (have H2_ := (Option.bind_some _ _).symm.trans H; rw [hy250]; with_reducible exact H2_) | (have H2_ := (Option.bind_some _ _).symm.trans H; with_reducible exact H2_) | with_reducible exact H | (rw [hy250]; exact H) | exact H
   have Ny250 := am hy250; clear hy250
   obtain rfl := sj H
   go_enter Try.func125, Try.ntmps125
   go_wp2_with (first | ((with_reducible refine gC (f := 80) rfl ?_); refine goesL_ (some 5) rfl rfl Try.func80 (by kernel_rfl) rfl #[.int .i64 (Int.tmod a0 65536)] rfl pA ?_; (with_reducible refine (spec_l3Put.calls (Int.tmod a0 65536) t244 _ A2.out).mono ?_); rintro e w5 ⟨v245, rfl, ho0, hb⟩; refine ⟨_, rfl, ?_⟩; have n_ := t2 (rL ho0 (bs_ pB)) (bz_ pB hb); clear HB; obtain ⟨HO246, HB⟩ := n_; (try clear hb); (try clear ho0)) | ((with_reducible refine gC (f := 80) rfl ?_); refine goesL_ (some 8) rfl rfl Try.func80 (by kernel_rfl) rfl #[.int .i64 (wrap64 (Int.tdiv a0 65536))] rfl pA ?_; (with_reducible refine (spec_l3Put.calls (wrap64 (Int.tdiv a0 65536)) t247 _ A3.out).mono ?_); rintro e w6 ⟨v248, rfl, ho0, hb⟩; refine ⟨_, rfl, ?_⟩; have n_ := t3 (rE (pR HO246) (rB ho0) hb) (rL (rW ho0 (Kd.R_lt (pR HO246))) (bs_ pB)) (bz_ pB hb); clear HO246 HB; obtain ⟨HO246, HO249, HB⟩ := n_; (try clear hb); (try clear ho0); obtain ⟨Ao8, co8, eo8⟩ := rS HO249.out; subst eo8) | ((with_reducible refine gB (b := .append) (xs := #[.tmp 5, .tmp 8]) rfl ?_); at_builtin; refine Kd.R_append_rows (Kd.int .u8) (w0 := w) w.heap.size rfl (.tmp 5) (.tmp 8) 22 5 (.int .u8 0) 1 rfl Try.underlying22 info5 rfl (by decide) (by omega) v245 t244 t247 _ _ _ (fun k_ => some k_ ≠ (.slice Ao8 t247.length co8 : Value).ownBlock) (fun _ => False) rfl rfl ?aO ?aR (fun _ _ h => h) (fun _ h => h.elim) ?aF ?aB ?aS ?aL ?_; (case aR => exact pC (rr HO249.out).2.2); (case aB => exact pB); (case aF => exact (fun k_ hk => Kd.fresh' (Kd.R_lt (pR HO249)) k_ hk)); (case aO => exact (pT (Kd.R_mono HO246.out (fun _ hk => hk.2)))); (case aS => exact (bs_ pB)); (case aL => have := LMc4.out; omega); intro v251 w7 ho hb hg hat; rw [← Ny250.out] at ho; have n_ := t3 (Kd.R_after (ok := (fun _ => True)) (pR HO249) hg hat) (hb) (ho); clear HO249 HB HO246; obtain ⟨HO249, HB, HO252⟩ := n_; clear ho hb hg hat))
   go_ret
   exact ⟨_, pE, (pT (Kd.R_mono HO252.out (fun _ hk => trivial))), pB⟩
 · rw [if_neg c4] at H
   exact absurd H (by simp)
end Go.Proofs.Ythjlbpgiaehjnaa.QFnExactBlockRoot
