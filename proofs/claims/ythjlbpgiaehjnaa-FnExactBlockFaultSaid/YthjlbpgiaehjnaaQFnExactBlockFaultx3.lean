-- written by this session's program (wip/tools/myprint.py)
import Derived.Test.YthjlbpgiaehjnaaQFnExactBlockFaultx0
import Derived.Test.YthjlbpgiaehjnaaQFnExactBlockFaultx1
import Derived.Test.YthjlbpgiaehjnaaQFnExactBlockFaultx2
-- squeezed
namespace Go.Proofs.Ythjlbpgiaehjnaa.QFnExactBlockFault
open Go.RowKit Go.Proofs.YthjlbpgiaehjnaaW.PrintWords Go.Proofs.YthjlbpgiaehjnaaW.PrintLast Go.Proofs.YthjlbpgiaehjnaaW.PrintMore
attribute [local go_sem] max2_int min2_int max_two min_two max_three min_three max_four min_four   -- for this text's walks alone
set_option linter.unusedVariables false
set_option linter.unusedSimpArgs false
set_option maxHeartbeats 8000000
set_option maxRecDepth 100000
def spec_l3Outs.l0 : Nat → List (S86) → Int → Int → Option (Int)
 | 0, _, _, _ => none
 | k + 1, x0, x3, x4 => if x4 < (x0.length : Int) then (if 0 ≤ x4 then ((spec_l1Amount.f ((rd_T86 x0 x4).f0)).bind fun t137 => (if t137 = true then ((spec_l2Fault.f k ((rd_T86 x0 x4).f1)).bind fun t139 => (if t139 = 0 then (spec_l3Outs.l0 k x0 (wrap64 (x3 + ((rd_T86 x0 x4).f0))) (wrap64 (x4 + 1))) else (some t139))) else (some 3))) else (none)) else ((spec_l1Amount.f x3).bind fun t135 => (if t135 = true then (some 0) else (some 7)))
def spec_l3Outs.f (k : Nat) (l0 : List (S86)) : Option (Int) := spec_l3Outs.l0 k l0 0 0
theorem spec_l3Outs.mono_l : ∀ k, (∀ y0 y1 y2, LeO (spec_l3Outs.l0 k y0 y1 y2) (spec_l3Outs.l0 (k + 1) y0 y1 y2))
 | 0 => fun _ _ _ r h => by simp [spec_l3Outs.l0] at h
 | k + 1 => by
  have ih0 := spec_l3Outs.mono_l k
  · intro y0 y1 y2
    unfold spec_l3Outs.l0
    repeat' with_reducible first | exact ih0 _ _ _ | exact spec_l2Fault.mono _ _ | exact LeO.refl _ | exact LeO.none _ | refine LeO.ite ?_ ?_ | refine LeO.bind ?_ (fun _ => ?_)
theorem spec_l3Outs.mono : ∀ a0 k, LeO (spec_l3Outs.f k a0) (spec_l3Outs.f (k + 1) a0) := by
 intro a0 k
 have ih0 := spec_l3Outs.mono_l k
 unfold spec_l3Outs.f
 repeat' with_reducible first | exact ih0 _ _ _ | exact spec_l2Fault.mono _ _ | exact LeO.refl _ | exact LeO.none _ | refine LeO.ite ?_ ?_ | refine LeO.bind ?_ (fun _ => ?_)
theorem spec_l3Outs.calls (k : Nat) (A0 : Option Addr) (c0 : Nat) (l0 : List (S86)) (r : Int) (w : World) (hr0 : Kd.C k86 w A0 l0.length l0) (hc0 : l0.length ≤ c0) (h : spec_l3Outs.f k l0 = some r) :
 Calls Try.prog 102 #[.slice A0 l0.length c0] w fun e w' => e = .returned (.int .i64 r) ∧ Drawn0 w w' := by
 have HR0 := Aside0.mk hr0; have HC0 := Aside0.mk hc0; clear hr0 hc0
 have H : (spec_l3Outs.l0 k l0 0 0) = some r := h
 clear h
 have H' := Aside0.mk H
 clear H
 go_enter Try.func102, Try.ntmps102
 go_wp2
 go_loopg [3, 4] k (fun kq v3 v4 w' => ∃ (x3_1 : Int) (x4_1 : Int), v3 = .int .i64 x3_1 ∧ v4 = .int .i64 x4_1 ∧ Aside0 (spec_l3Outs.l0 kq l0 x3_1 x4_1 = some r) ∧ Aside0 (kq ≤ k) ∧ Drawn0 w w')
 case atStart => exact ⟨(0), (0), pF, pF, H', ⟨Nat.le_refl _⟩, pW⟩
 case round =>
  clear H'
  (try clear c1)
  obtain ⟨x3_1, x4_1, rfl, rfl, HA, HK1, ⟨m1, rfl⟩⟩ := hrel
  cases gk with
  | zero => exact absurd HA.out (by simp [spec_l3Outs.l0])
  | succ k1 =>
   have H := HA.out
   clear HA
   simp only [spec_l3Outs.l0] at H
   by_cases c2 : x4_1 < (l0.length : Int)
   · rw [if_pos c2] at H
     have c2b0 : decide (x4_1 < (l0.length : Int)) = true := decide_eq_true c2
     clear c2
     by_cases c3 : 0 ≤ x4_1
     · rw [if_pos c3] at H
       have c3b0 : decide (0 ≤ x4_1) = true := decide_eq_true c3
       clear c3
       obtain ⟨t137, A40, H⟩ := bO H
       replace H : (if t137 = true then ((spec_l2Fault.f k1 ((rd_T86 l0 x4_1).f1)).bind fun t139 => (if t139 = 0 then (spec_l3Outs.l0 k1 l0 (wrap64 (x3_1 + ((rd_T86 l0 x4_1).f0))) (wrap64 (x4_1 + 1))) else (some t139))) else (some 3)) = some r := H
       have A4 := Aside0.mk A40; clear A40
       by_cases c5 : t137 = true
       · subst c5
         have H1 : ((spec_l2Fault.f k1 ((rd_T86 l0 x4_1).f1)).bind fun t139 => (if t139 = 0 then (spec_l3Outs.l0 k1 l0 (wrap64 (x3_1 + ((rd_T86 l0 x4_1).f0))) (wrap64 (x4_1 + 1))) else (some t139))) = some r := by rw [if_pos rfl] at H; exact H
         clear H; have H := H1; clear H1
         obtain ⟨t139, A60, H⟩ := bO H
         replace H : (if t139 = 0 then (spec_l3Outs.l0 k1 l0 (wrap64 (x3_1 + ((rd_T86 l0 x4_1).f0))) (wrap64 (x4_1 + 1))) else (some t139)) = some r := H
         have A6 := Aside0.mk A60; clear A60
         by_cases c7 : t139 = 0
         · rw [if_pos c7] at H
           have c7b0 : (t139 == 0) = true := beq_iff_eq.mpr c7
           have c7b1 : (t139 != 0) = false := bne_eq_false_iff_eq.mpr c7
           clear c7
           have H' := Aside0.mk H
           clear H
           have p136 : 0 ≤ (x4_1 : Int) := pD
           have q136 : x4_1 < (l0.length : Int) := pD
           obtain ⟨ad136, A136_1, c136_1, e136, hx136_0, hx136_1, hl136_1, hi136_1⟩ := at_T86 HR0.out x4_1 p136 q136
           cases e136; have HR136_1 := Aside0.mk hi136_1; have HC136_1 := Aside0.mk hl136_1; clear hi136_1 hl136_1; replace p136 := eq_true p136; replace q136 := eq_true q136
           go_wp2_with (first | ((with_reducible refine gate_callee (f := 138) rfl ?_); refine goesL_ (some 17) rfl rfl Try.func138 (by kernel_rfl) rfl #[.int .i64 ((rd_T86 l0 x4_1).f0)] rfl pA ?_; (with_reducible refine (spec_l1Amount.calls ((rd_T86 l0 x4_1).f0) true _ A4.out).mono ?_); rintro e w' ⟨rfl, ⟨nd, rfl⟩⟩; refine ⟨_, rfl, ?_⟩; have p138 : 0 ≤ (x4_1 : Int) := pD; have q138 : x4_1 < (l0.length : Int) := pD; obtain ⟨ad138, A138_1, c138_1, e138, hx138_0, hx138_1, hl138_1, hi138_1⟩ := at_T86 HR0.out x4_1 p138 q138; obtain rfl : ad136 = ad138 := (by injection e138); have HR138_1 := Aside0.mk hi138_1; have HC138_1 := Aside0.mk hl138_1; clear hi138_1 hl138_1; replace p138 := eq_true p138; replace q138 := eq_true q138; have ea_ := Option.some.inj (hx136_1.symm.trans hx138_1); injection ea_ with ea_ en_ ec_; subst ea_; subst ec_; clear en_) | ((with_reducible refine gate_callee (f := 139) rfl ?_); refine goesL_ (some 24) rfl rfl Try.func139 (by kernel_rfl) rfl #[.slice A136_1 ((rd_T86 l0 x4_1).f1).length c136_1] rfl pA ?_; (with_reducible refine (spec_l2Fault.calls k1 _ _ ((rd_T86 l0 x4_1).f1) t139 _ ?side1 ?side2 A6.out).mono ?_); (case side1 => exact pC HR138_1.out); (case side2 => exact HC138_1.out); rintro e w' ⟨rfl, ⟨nd, rfl⟩⟩; refine ⟨_, rfl, ?_⟩; have p140 : 0 ≤ (x4_1 : Int) := pD; have q140 : x4_1 < (l0.length : Int) := pD; obtain ⟨ad140, A140_1, c140_1, e140, hx140_0, hx140_1, hl140_1, hi140_1⟩ := at_T86 HR0.out x4_1 p140 q140; obtain rfl : ad136 = ad140 := (by injection e140); have HR140_1 := Aside0.mk hi140_1; have HC140_1 := Aside0.mk hl140_1; clear hi140_1 hl140_1; replace p140 := eq_true p140; replace q140 := eq_true q140; have ea_ := Option.some.inj (hx136_1.symm.trans hx140_1); injection ea_ with ea_ en_ ec_; subst ea_; subst ec_; clear en_))
           go_roundg k1
           case measure => have := HK1.out; omega
           case rel => exact ⟨(wrap64 (x3_1 + ((rd_T86 l0 x4_1).f0))), (wrap64 (x4_1 + 1)), pF, pF, H', ⟨by have := HK1.out; omega⟩, pW⟩
         · rw [if_neg c7] at H
           have c7b0 : (t139 == 0) = false := beq_eq_false_iff_ne.mpr c7
           have c7b1 : (t139 != 0) = true := bne_iff_ne.mpr c7
           obtain rfl := Option.some.inj H
           have p136 : 0 ≤ (x4_1 : Int) := pD
           have q136 : x4_1 < (l0.length : Int) := pD
           obtain ⟨ad136, A136_1, c136_1, e136, hx136_0, hx136_1, hl136_1, hi136_1⟩ := at_T86 HR0.out x4_1 p136 q136
           cases e136; have HR136_1 := Aside0.mk hi136_1; have HC136_1 := Aside0.mk hl136_1; clear hi136_1 hl136_1; replace p136 := eq_true p136; replace q136 := eq_true q136
           go_wp2_with (first | ((with_reducible refine gate_callee (f := 138) rfl ?_); refine goesL_ (some 17) rfl rfl Try.func138 (by kernel_rfl) rfl #[.int .i64 ((rd_T86 l0 x4_1).f0)] rfl pA ?_; (with_reducible refine (spec_l1Amount.calls ((rd_T86 l0 x4_1).f0) true _ A4.out).mono ?_); rintro e w' ⟨rfl, ⟨nd, rfl⟩⟩; refine ⟨_, rfl, ?_⟩; have p138 : 0 ≤ (x4_1 : Int) := pD; have q138 : x4_1 < (l0.length : Int) := pD; obtain ⟨ad138, A138_1, c138_1, e138, hx138_0, hx138_1, hl138_1, hi138_1⟩ := at_T86 HR0.out x4_1 p138 q138; obtain rfl : ad136 = ad138 := (by injection e138); have HR138_1 := Aside0.mk hi138_1; have HC138_1 := Aside0.mk hl138_1; clear hi138_1 hl138_1; replace p138 := eq_true p138; replace q138 := eq_true q138; have ea_ := Option.some.inj (hx136_1.symm.trans hx138_1); injection ea_ with ea_ en_ ec_; subst ea_; subst ec_; clear en_) | ((with_reducible refine gate_callee (f := 139) rfl ?_); refine goesL_ (some 24) rfl rfl Try.func139 (by kernel_rfl) rfl #[.slice A136_1 ((rd_T86 l0 x4_1).f1).length c136_1] rfl pA ?_; (with_reducible refine (spec_l2Fault.calls k1 _ _ ((rd_T86 l0 x4_1).f1) t139 _ ?side1 ?side2 A6.out).mono ?_); (case side1 => exact pC HR138_1.out); (case side2 => exact HC138_1.out); rintro e w' ⟨rfl, ⟨nd, rfl⟩⟩; refine ⟨_, rfl, ?_⟩))
           go_ret
           exact ⟨by first | rfl | (simp; done) | (simp [*]; done), pW⟩
       · replace c5 := Bool.eq_false_iff.mpr c5
         subst c5
         have H1 : (some 3) = some r := by rw [if_neg (show ¬ (false = true) by decide)] at H; exact H
         clear H; have H := H1; clear H1
         obtain rfl := Option.some.inj H
         have p136 : 0 ≤ (x4_1 : Int) := pD
         have q136 : x4_1 < (l0.length : Int) := pD
         obtain ⟨ad136, A136_1, c136_1, e136, hx136_0, hx136_1, hl136_1, hi136_1⟩ := at_T86 HR0.out x4_1 p136 q136
         cases e136; have HR136_1 := Aside0.mk hi136_1; have HC136_1 := Aside0.mk hl136_1; clear hi136_1 hl136_1; replace p136 := eq_true p136; replace q136 := eq_true q136
         go_wp2_with (first | ((with_reducible refine gate_callee (f := 138) rfl ?_); refine goesL_ (some 17) rfl rfl Try.func138 (by kernel_rfl) rfl #[.int .i64 ((rd_T86 l0 x4_1).f0)] rfl pA ?_; (with_reducible refine (spec_l1Amount.calls ((rd_T86 l0 x4_1).f0) false _ A4.out).mono ?_); rintro e w' ⟨rfl, ⟨nd, rfl⟩⟩; refine ⟨_, rfl, ?_⟩))
         go_ret
         exact ⟨by first | rfl | (simp; done) | (simp [*]; done), pW⟩
     · rw [if_neg c3] at H
       exact absurd H (by simp)
   · rw [if_neg c2] at H
     have c2b0 : decide (x4_1 < (l0.length : Int)) = false := decide_eq_false c2
     clear c2
     obtain ⟨t135, A80, H⟩ := bO H
     replace H : (if t135 = true then (some 0) else (some 7)) = some r := H
     have A8 := Aside0.mk A80; clear A80
     by_cases c9 : t135 = true
     · subst c9
       have H1 : (some 0) = some r := by rw [if_pos rfl] at H; exact H
       clear H; have H := H1; clear H1
       obtain rfl := Option.some.inj H
       go_wp2_with (first | ((with_reducible refine gate_callee (f := 138) rfl ?_); refine goesL_ (some 36) rfl rfl Try.func138 (by kernel_rfl) rfl #[.int .i64 x3_1] rfl pA ?_; (with_reducible refine (spec_l1Amount.calls x3_1 true _ A8.out).mono ?_); rintro e w' ⟨rfl, ⟨nd, rfl⟩⟩; refine ⟨_, rfl, ?_⟩))
       go_ret
       exact ⟨by first | rfl | (simp; done) | (simp [*]; done), pW⟩
     · replace c9 := Bool.eq_false_iff.mpr c9
       subst c9
       have H1 : (some 7) = some r := by rw [if_neg (show ¬ (false = true) by decide)] at H; exact H
       clear H; have H := H1; clear H1
       obtain rfl := Option.some.inj H
       go_wp2_with (first | ((with_reducible refine gate_callee (f := 138) rfl ?_); refine goesL_ (some 36) rfl rfl Try.func138 (by kernel_rfl) rfl #[.int .i64 x3_1] rfl pA ?_; (with_reducible refine (spec_l1Amount.calls x3_1 false _ A8.out).mono ?_); rintro e w' ⟨rfl, ⟨nd, rfl⟩⟩; refine ⟨_, rfl, ?_⟩))
       go_ret
       exact ⟨by first | rfl | (simp; done) | (simp [*]; done), pW⟩
mutual
def spec_l3Fault_in.j0 : Nat → List (S27) → Bool → Option (Int)
 | 0, _, _ => none
 | k + 1, x0, x32 => if x32 = true then (some 2) else (spec_l3Fault_in.l0 k x0 0)
def spec_l3Fault_in.l0 : Nat → List (S27) → Int → Option (Int)
 | 0, _, _ => none
 | k + 1, x0, x3 => if 0 < (x0.length : Int) then (if x3 < (((rd_T27 x0 0).f1).length : Int) then ((spec_l3In.f k ((rd_T27 x0 0).f1) x3).bind fun t146 => (if t146 = 0 then (spec_l3Fault_in.l0 k x0 (wrap64 (x3 + 1))) else (some t146))) else ((spec_l3Outs.f k ((rd_T27 x0 0).f2)).bind fun t148 => (some t148))) else (none)
end
def spec_l3Fault_in.f (k : Nat) (l0 : List (S27)) : Option (Int) := if 0 < (l0.length : Int) then ((spec_l1In.f ((rd_T27 l0 0).f0) 0 65535).bind fun t142 => (if t142 = true then (if (((rd_T27 l0 0).f1).length : Int) > 4 then (spec_l3Fault_in.j0 k l0 true) else (if (((rd_T27 l0 0).f2).length : Int) < 1 then (spec_l3Fault_in.j0 k l0 true) else (spec_l3Fault_in.j0 k l0 (decide ((((rd_T27 l0 0).f2).length : Int) > 4))))) else (some 3))) else (none)
theorem spec_l3Fault_in.mono_l : ∀ k, (∀ y0 y1, LeO (spec_l3Fault_in.j0 k y0 y1) (spec_l3Fault_in.j0 (k + 1) y0 y1)) ∧ (∀ y0 y1, LeO (spec_l3Fault_in.l0 k y0 y1) (spec_l3Fault_in.l0 (k + 1) y0 y1))
 | 0 => ⟨fun _ _ r h => by simp [spec_l3Fault_in.j0] at h, fun _ _ r h => by simp [spec_l3Fault_in.l0] at h⟩
 | k + 1 => by
  obtain ⟨ih0, ih1⟩ := spec_l3Fault_in.mono_l k
  refine ⟨?_, ?_⟩
  · intro y0 y1
    unfold spec_l3Fault_in.j0
    repeat' with_reducible first | exact ih0 _ _ | exact ih1 _ _ | exact spec_l3In.mono _ _ _ | exact spec_l3Outs.mono _ _ | exact LeO.refl _ | exact LeO.none _ | refine LeO.ite ?_ ?_ | refine LeO.bind ?_ (fun _ => ?_)
  · intro y0 y1
    unfold spec_l3Fault_in.l0
    repeat' with_reducible first | exact ih0 _ _ | exact ih1 _ _ | exact spec_l3In.mono _ _ _ | exact spec_l3Outs.mono _ _ | exact LeO.refl _ | exact LeO.none _ | refine LeO.ite ?_ ?_ | refine LeO.bind ?_ (fun _ => ?_)
theorem spec_l3Fault_in.mono : ∀ a0 k, LeO (spec_l3Fault_in.f k a0) (spec_l3Fault_in.f (k + 1) a0) := by
 intro a0 k
 obtain ⟨ih0, ih1⟩ := spec_l3Fault_in.mono_l k
 unfold spec_l3Fault_in.f
 repeat' with_reducible first | exact ih0 _ _ | exact ih1 _ _ | exact spec_l3In.mono _ _ _ | exact spec_l3Outs.mono _ _ | exact LeO.refl _ | exact LeO.none _ | refine LeO.ite ?_ ?_ | refine LeO.bind ?_ (fun _ => ?_)
theorem spec_l3Fault_in.calls (k : Nat) (A0 : Option Addr) (c0 : Nat) (l0 : List (S27)) (r : Int) (w : World) (hr0 : Kd.C k27 w A0 l0.length l0) (hc0 : l0.length ≤ c0) (h : spec_l3Fault_in.f k l0 = some r) :
 Calls Try.prog 53 #[.pointer A0] w fun e w' => e = .returned (.int .i64 r) ∧ Below w.heap.size w w' := by
 have HR0 := Aside0.mk hr0; have HC0 := Aside0.mk hc0; clear hr0 hc0
 have HB := Aside0.mk (Below.refl w.heap.size w)
 have H : (if 0 < (l0.length : Int) then ((spec_l1In.f ((rd_T27 l0 0).f0) 0 65535).bind fun t142 => (if t142 = true then (if (((rd_T27 l0 0).f1).length : Int) > 4 then (spec_l3Fault_in.j0 k l0 true) else (if (((rd_T27 l0 0).f2).length : Int) < 1 then (spec_l3Fault_in.j0 k l0 true) else (spec_l3Fault_in.j0 k l0 (decide ((((rd_T27 l0 0).f2).length : Int) > 4))))) else (some 3))) else (none)) = some r := h
 clear h
 by_cases c2 : 0 < (l0.length : Int)
 · rw [if_pos c2] at H
   have c2b0 : decide (0 < (l0.length : Int)) = true := decide_eq_true c2
   have c2b1 : decide (0 < l0.length) = true := decide_eq_true (by omega)
   clear c2
   obtain ⟨t142, A30, H⟩ := bO H
   replace H : (if t142 = true then (if (((rd_T27 l0 0).f1).length : Int) > 4 then (spec_l3Fault_in.j0 k l0 true) else (if (((rd_T27 l0 0).f2).length : Int) < 1 then (spec_l3Fault_in.j0 k l0 true) else (spec_l3Fault_in.j0 k l0 (decide ((((rd_T27 l0 0).f2).length : Int) > 4))))) else (some 3)) = some r := H
   have A3 := Aside0.mk A30; clear A30
   by_cases c4 : t142 = true
   · subst c4
     have H1 : (if (((rd_T27 l0 0).f1).length : Int) > 4 then (spec_l3Fault_in.j0 k l0 true) else (if (((rd_T27 l0 0).f2).length : Int) < 1 then (spec_l3Fault_in.j0 k l0 true) else (spec_l3Fault_in.j0 k l0 (decide ((((rd_T27 l0 0).f2).length : Int) > 4))))) = some r := by rw [if_pos rfl] at H; exact H
     clear H; have H := H1; clear H1; have HC5 := Aside0.mk H; clear H
     have p141 : 0 ≤ (0 : Int) := (by omega)
     have q141 : 0 < (l0.length : Int) := pD
     obtain ⟨ad141, A141_1, c141_1, A141_2, c141_2, e141, hx141_0, hx141_1, hx141_2, hl141_1, hi141_1, hl141_2, hi141_2⟩ := at_T27 HR0.out 0 p141 q141
     cases e141
     have qi141 : (0 < l0.length) = True := eq_true (by omega)
     (try rw [z0] at hx141_0); (try rw [Nat.zero_mul] at hx141_0); (try rw [Addr.add_zero'] at hx141_0); (try rw [z0] at hx141_1); (try rw [Nat.zero_mul] at hx141_1); (try rw [Addr.add_zero'] at hx141_1); (try rw [z0] at hx141_2); (try rw [Nat.zero_mul] at hx141_2); (try rw [Addr.add_zero'] at hx141_2); have HR141_1 := Aside0.mk hi141_1; have HC141_1 := Aside0.mk hl141_1; clear hi141_1 hl141_1; have HR141_2 := Aside0.mk hi141_2; have HC141_2 := Aside0.mk hl141_2; clear hi141_2 hl141_2; replace p141 := eq_true p141; replace q141 := eq_true q141
     go_enter Try.func53, Try.ntmps53
     go_upto_region 3 with (first | ((with_reducible refine gate_callee (f := 81) rfl ?_); refine goesL_ (some 9) rfl rfl Try.func81 (by kernel_rfl) rfl #[.int .i64 ((rd_T27 l0 0).f0), .int .i64 0, .int .i64 65535] rfl pA ?_; (with_reducible refine (spec_l1In.calls ((rd_T27 l0 0).f0) 0 65535 true _ A3.out).mono ?_); rintro e w' ⟨rfl, ⟨nd, rfl⟩⟩; refine ⟨_, rfl, ?_⟩))
     (try simp only [Act.put, List.setIfInBounds_toArray, List.set_cons_zero, List.set_cons_succ])
     go_cut [32] (fun v32 wc => ∃ (kq : Nat) (x32_4 : Bool), v32 = .bool x32_4 ∧ Aside0 (spec_l3Fault_in.j0 kq l0 x32_4 = some r) ∧ Aside0 (kq ≤ k) ∧ Aside0 (Below w.heap.size w wc))
     case first =>
      have H := HC5.out
      clear HC5
      by_cases c6 : (((rd_T27 l0 0).f1).length : Int) > 4
      · rw [if_pos c6] at H
        have c6b0 : decide (4 < (((rd_T27 l0 0).f1).length : Int)) = true := decide_eq_true c6
        have c6b1 : decide (4 < ((rd_T27 l0 0).f1).length) = true := decide_eq_true (by omega)
        clear c6
        (first | rw [c6b0] | (simp only [i64_w, i32_w]; rw [c6b0]) | skip)
        have H' := Aside0.mk H
        clear H
        have p143 : 0 ≤ (0 : Int) := (by omega)
        have q143 : 0 < (l0.length : Int) := pD
        (try clear hx141_0); (try clear hx141_1); (try clear hx141_2); (try clear hHeld)
        obtain ⟨ad143, A143_1, c143_1, A143_2, c143_2, e143, hx143_0, hx143_1, hx143_2, hl143_1, hi143_1, hl143_2, hi143_2⟩ := at_T27 HR0.out 0 p143 q143
        obtain rfl : ad141 = ad143 := (by injection e143)
        have qi143 : (0 < l0.length) = True := eq_true (by omega)
        (try rw [z0] at hx143_0); (try rw [Nat.zero_mul] at hx143_0); (try rw [Addr.add_zero'] at hx143_0); (try rw [z0] at hx143_1); (try rw [Nat.zero_mul] at hx143_1); (try rw [Addr.add_zero'] at hx143_1); (try rw [z0] at hx143_2); (try rw [Nat.zero_mul] at hx143_2); (try rw [Addr.add_zero'] at hx143_2); replace hx143_0 := cb HB hx143_0; replace hx143_1 := cb HB hx143_1; replace hx143_2 := cb HB hx143_2; have HR143_1 := Aside0.mk hi143_1; have HC143_1 := Aside0.mk hl143_1; clear hi143_1 hl143_1; have HR143_2 := Aside0.mk hi143_2; have HC143_2 := Aside0.mk hl143_2; clear hi143_2 hl143_2; replace p143 := eq_true p143; replace q143 := eq_true q143
        go_wp2
        go_meet
        case rel => exact ⟨_, (true), pF, H', ⟨by first | omega | exact Nat.le_refl _⟩, ⟨pB⟩⟩
      · rw [if_neg c6] at H
        have c6b0 : decide (4 < (((rd_T27 l0 0).f1).length : Int)) = false := decide_eq_false c6
        have c6b1 : decide (4 < ((rd_T27 l0 0).f1).length) = false := decide_eq_false (by omega)
        clear c6
        (first | rw [c6b0] | (simp only [i64_w, i32_w]; rw [c6b0]) | skip)
        by_cases c7 : (((rd_T27 l0 0).f2).length : Int) < 1
        · rw [if_pos c7] at H
          have c7b0 : decide ((((rd_T27 l0 0).f2).length : Int) < 1) = true := decide_eq_true c7
          have c7b1 : decide (((rd_T27 l0 0).f2).length < 1) = true := decide_eq_true (by omega)
          clear c7
          have H' := Aside0.mk H
          clear H
          have p143 : 0 ≤ (0 : Int) := (by omega)
          have q143 : 0 < (l0.length : Int) := pD
          obtain ⟨ad143, A143_1, c143_1, A143_2, c143_2, e143, hx143_0, hx143_1, hx143_2, hl143_1, hi143_1, hl143_2, hi143_2⟩ := at_T27 HR0.out 0 p143 q143
          obtain rfl : ad141 = ad143 := (by injection e143)
          have qi143 : (0 < l0.length) = True := eq_true (by omega)
          (try rw [z0] at hx143_0); (try rw [Nat.zero_mul] at hx143_0); (try rw [Addr.add_zero'] at hx143_0); (try rw [z0] at hx143_1); (try rw [Nat.zero_mul] at hx143_1); (try rw [Addr.add_zero'] at hx143_1); (try rw [z0] at hx143_2); (try rw [Nat.zero_mul] at hx143_2); (try rw [Addr.add_zero'] at hx143_2); replace hx143_0 := cb HB hx143_0; replace hx143_1 := cb HB hx143_1; replace hx143_2 := cb HB hx143_2; have HR143_1 := Aside0.mk hi143_1; have HC143_1 := Aside0.mk hl143_1; clear hi143_1 hl143_1; have HR143_2 := Aside0.mk hi143_2; have HC143_2 := Aside0.mk hl143_2; clear hi143_2 hl143_2; replace p143 := eq_true p143; replace q143 := eq_true q143
          go_wp2
          go_meet
          case rel => exact ⟨_, (true), pF, H', ⟨by first | omega | exact Nat.le_refl _⟩, ⟨pB⟩⟩
        · rw [if_neg c7] at H
          have c7b0 : decide ((((rd_T27 l0 0).f2).length : Int) < 1) = false := decide_eq_false c7
          have c7b1 : decide (((rd_T27 l0 0).f2).length < 1) = false := decide_eq_false (by omega)
          clear c7
          have H' := Aside0.mk H
          clear H
          have p143 : 0 ≤ (0 : Int) := (by omega)
          have q143 : 0 < (l0.length : Int) := pD
          obtain ⟨ad143, A143_1, c143_1, A143_2, c143_2, e143, hx143_0, hx143_1, hx143_2, hl143_1, hi143_1, hl143_2, hi143_2⟩ := at_T27 HR0.out 0 p143 q143
          obtain rfl : ad141 = ad143 := (by injection e143)
          have qi143 : (0 < l0.length) = True := eq_true (by omega)
          (try rw [z0] at hx143_0); (try rw [Nat.zero_mul] at hx143_0); (try rw [Addr.add_zero'] at hx143_0); (try rw [z0] at hx143_1); (try rw [Nat.zero_mul] at hx143_1); (try rw [Addr.add_zero'] at hx143_1); (try rw [z0] at hx143_2); (try rw [Nat.zero_mul] at hx143_2); (try rw [Addr.add_zero'] at hx143_2); replace hx143_0 := cb HB hx143_0; replace hx143_1 := cb HB hx143_1; replace hx143_2 := cb HB hx143_2; have HR143_1 := Aside0.mk hi143_1; have HC143_1 := Aside0.mk hl143_1; clear hi143_1 hl143_1; have HR143_2 := Aside0.mk hi143_2; have HC143_2 := Aside0.mk hl143_2; clear hi143_2 hl143_2; replace p143 := eq_true p143; replace q143 := eq_true q143
          go_wp2
          go_meet
          case rel => exact ⟨_, (decide ((((rd_T27 l0 0).f2).length : Int) > 4)), pF, H', ⟨by first | omega | exact Nat.le_refl _⟩, ⟨pB⟩⟩
     case rest =>
      clear HC5; (try clear c1); (try clear p1); (try clear q1); (try clear hx1); (try clear qi1); (try clear c2); (try clear c2b0); (try clear c2b1); (try clear p2); (try clear c4); (try clear c6); (try clear c6b0); (try clear c6b1); (try clear c7); (try clear c7b0); (try clear c7b1); (try clear hx141_0); (try clear hx141_1); (try clear hx141_2); (try clear hx143_0); (try clear hx143_1); (try clear hx143_2); (try clear p141); (try clear p143); (try clear q141); (try clear q143)
      obtain ⟨kq, x32_4, rfl, HA, HJ4, HB⟩ := hcut
      cases kq with
      | zero => exact absurd HA.out (by simp [spec_l3Fault_in.j0])
      | succ kj4 =>
       have H := HA.out
       clear HA
       simp only [spec_l3Fault_in.j0] at H
       by_cases c8 : x32_4 = true
       · subst c8
         have H1 : (some 2) = some r := by rw [if_pos rfl] at H; exact H
         clear H; have H := H1; clear H1
         obtain rfl := Option.some.inj H
         go_wp2
         go_ret
         exact ⟨pE, pB⟩
       · replace c8 := Bool.eq_false_iff.mpr c8
         subst c8
         have H1 : (spec_l3Fault_in.l0 kj4 l0 0) = some r := by rw [if_neg (show ¬ (false = true) by decide)] at H; exact H
         clear H; have H := H1; clear H1
         have H' := Aside0.mk H
         clear H
         go_wp2
         go_loopg [3] kj4 (fun kq v3 w' => ∃ (x3_2 : Int), v3 = .int .i64 x3_2 ∧ Aside0 (spec_l3Fault_in.l0 kq l0 x3_2 = some r) ∧ Aside0 (kq ≤ kj4) ∧ Aside0 (Below w.heap.size w w'))
         case atStart => exact ⟨(0), pF, H', ⟨Nat.le_refl _⟩, ⟨pB⟩⟩
         case round =>
          clear H'
          (try clear c1); (try clear p1); (try clear q1); (try clear hx1); (try clear qi1); (try clear c2); (try clear c2b0); (try clear c2b1); (try clear p2); (try clear c4); (try clear c6); (try clear c6b0); (try clear c6b1); (try clear c7); (try clear c7b0); (try clear c7b1); (try clear c8); (try clear hx141_0); (try clear hx141_1); (try clear hx141_2); (try clear hx143_0); (try clear hx143_1); (try clear hx143_2); (try clear p1); (try clear p141); (try clear p143); (try clear p2); (try clear q1); (try clear q141); (try clear q143)
          obtain ⟨x3_2, rfl, HA, HK2, HB⟩ := hrel
          cases gk with
          | zero => exact absurd HA.out (by simp [spec_l3Fault_in.l0])
          | succ k2 =>
           have H := HA.out
           clear HA
           simp only [spec_l3Fault_in.l0] at H
           by_cases c9 : 0 < (l0.length : Int)
           · rw [if_pos c9] at H
             have c9b0 : decide (0 < (l0.length : Int)) = true := decide_eq_true c9
             have c9b1 : decide (0 < l0.length) = true := decide_eq_true (by omega)
             clear c9
             by_cases c10 : x3_2 < (((rd_T27 l0 0).f1).length : Int)
             · rw [if_pos c10] at H
               have c10b0 : decide (x3_2 < (((rd_T27 l0 0).f1).length : Int)) = true := decide_eq_true c10
               clear c10
               obtain ⟨t146, A110, H⟩ := bO H
               replace H : (if t146 = 0 then (spec_l3Fault_in.l0 k2 l0 (wrap64 (x3_2 + 1))) else (some t146)) = some r := H
               have A11 := Aside0.mk A110; clear A110
               by_cases c12 : t146 = 0
               · rw [if_pos c12] at H
                 have c12b0 : (t146 == 0) = true := beq_iff_eq.mpr c12
                 have c12b1 : (t146 != 0) = false := bne_eq_false_iff_eq.mpr c12
                 clear c12
                 have H' := Aside0.mk H
                 clear H
                 have p144 : 0 ≤ (0 : Int) := (by omega)
                 have q144 : 0 < (l0.length : Int) := pD
                 obtain ⟨ad144, A144_1, c144_1, A144_2, c144_2, e144, hx144_0, hx144_1, hx144_2, hl144_1, hi144_1, hl144_2, hi144_2⟩ := at_T27 HR0.out 0 p144 q144
                 obtain rfl : ad141 = ad144 := (by injection e144)
                 have qi144 : (0 < l0.length) = True := eq_true (by omega)
                 (try rw [z0] at hx144_0); (try rw [Nat.zero_mul] at hx144_0); (try rw [Addr.add_zero'] at hx144_0); (try rw [z0] at hx144_1); (try rw [Nat.zero_mul] at hx144_1); (try rw [Addr.add_zero'] at hx144_1); (try rw [z0] at hx144_2); (try rw [Nat.zero_mul] at hx144_2); (try rw [Addr.add_zero'] at hx144_2); replace hx144_0 := cb HB hx144_0; replace hx144_1 := cb HB hx144_1; replace hx144_2 := cb HB hx144_2; have HR144_1 := Aside0.mk hi144_1; have HC144_1 := Aside0.mk hl144_1; clear hi144_1 hl144_1; have HR144_2 := Aside0.mk hi144_2; have HC144_2 := Aside0.mk hl144_2; clear hi144_2 hl144_2; replace p144 := eq_true p144; replace q144 := eq_true q144
                 have p145 : 0 ≤ (0 : Int) := (by omega)
                 have q145 : 0 < (l0.length : Int) := pD
                 (try clear hx144_0); (try clear hHeld)
                 obtain ⟨ad145, A145_1, c145_1, A145_2, c145_2, e145, hx145_0, hx145_1, hx145_2, hl145_1, hi145_1, hl145_2, hi145_2⟩ := at_T27 HR0.out 0 p145 q145
                 obtain rfl : ad141 = ad145 := (by injection e145)
                 have qi145 : (0 < l0.length) = True := eq_true (by omega)
                 (try rw [z0] at hx145_0); (try rw [Nat.zero_mul] at hx145_0); (try rw [Addr.add_zero'] at hx145_0); (try rw [z0] at hx145_1); (try rw [Nat.zero_mul] at hx145_1); (try rw [Addr.add_zero'] at hx145_1); (try rw [z0] at hx145_2); (try rw [Nat.zero_mul] at hx145_2); (try rw [Addr.add_zero'] at hx145_2); replace hx145_0 := cb HB hx145_0; replace hx145_1 := cb HB hx145_1; replace hx145_2 := cb HB hx145_2; have HR145_1 := Aside0.mk hi145_1; have HC145_1 := Aside0.mk hl145_1; clear hi145_1 hl145_1; have HR145_2 := Aside0.mk hi145_2; have HC145_2 := Aside0.mk hl145_2; clear hi145_2 hl145_2; replace p145 := eq_true p145; replace q145 := eq_true q145
                 have ea_ := Option.some.inj (hx144_1.symm.trans hx145_1)
                 injection ea_ with ea_ en_ ec_
                 subst ea_; subst ec_; clear en_
                 have ea_ := Option.some.inj (hx144_2.symm.trans hx145_2)
                 injection ea_ with ea_ en_ ec_
                 subst ea_; subst ec_; clear en_
                 go_wp2_with (first | ((with_reducible refine gate_callee (f := 101) rfl ?_); refine goesL_ (some 47) rfl rfl Try.func101 (by kernel_rfl) rfl #[.slice A144_1 ((rd_T27 l0 0).f1).length c144_1, .int .i64 x3_2] rfl pA ?_; (with_reducible refine (spec_l3In.calls k2 _ _ ((rd_T27 l0 0).f1) x3_2 t146 _ ?side1 ?side2 A11.out).mono ?_); (case side1 => exact pC (Kd.C_below HR145_1.out HB.out)); (case side2 => exact HC145_1.out); rintro e w' ⟨rfl, ⟨nd, rfl⟩⟩; refine ⟨_, rfl, ?_⟩))
                 go_roundg k2
                 case measure => have := HJ4.out; have := HK2.out; omega
                 case rel => exact ⟨(wrap64 (x3_2 + 1)), pF, H', ⟨by have := HJ4.out; have := HK2.out; omega⟩, ⟨pB⟩⟩
               · rw [if_neg c12] at H
                 have c12b0 : (t146 == 0) = false := beq_eq_false_iff_ne.mpr c12
                 have c12b1 : (t146 != 0) = true := bne_iff_ne.mpr c12
                 obtain rfl := Option.some.inj H
                 have p144 : 0 ≤ (0 : Int) := (by omega)
                 have q144 : 0 < (l0.length : Int) := pD
                 obtain ⟨ad144, A144_1, c144_1, A144_2, c144_2, e144, hx144_0, hx144_1, hx144_2, hl144_1, hi144_1, hl144_2, hi144_2⟩ := at_T27 HR0.out 0 p144 q144
                 obtain rfl : ad141 = ad144 := (by injection e144)
                 have qi144 : (0 < l0.length) = True := eq_true (by omega)
                 (try rw [z0] at hx144_0); (try rw [Nat.zero_mul] at hx144_0); (try rw [Addr.add_zero'] at hx144_0); (try rw [z0] at hx144_1); (try rw [Nat.zero_mul] at hx144_1); (try rw [Addr.add_zero'] at hx144_1); (try rw [z0] at hx144_2); (try rw [Nat.zero_mul] at hx144_2); (try rw [Addr.add_zero'] at hx144_2); replace hx144_0 := cb HB hx144_0; replace hx144_1 := cb HB hx144_1; replace hx144_2 := cb HB hx144_2; have HR144_1 := Aside0.mk hi144_1; have HC144_1 := Aside0.mk hl144_1; clear hi144_1 hl144_1; have HR144_2 := Aside0.mk hi144_2; have HC144_2 := Aside0.mk hl144_2; clear hi144_2 hl144_2; replace p144 := eq_true p144; replace q144 := eq_true q144
                 have p145 : 0 ≤ (0 : Int) := (by omega)
                 have q145 : 0 < (l0.length : Int) := pD
                 (try clear hx144_0); (try clear hHeld)
                 obtain ⟨ad145, A145_1, c145_1, A145_2, c145_2, e145, hx145_0, hx145_1, hx145_2, hl145_1, hi145_1, hl145_2, hi145_2⟩ := at_T27 HR0.out 0 p145 q145
                 obtain rfl : ad141 = ad145 := (by injection e145)
                 have qi145 : (0 < l0.length) = True := eq_true (by omega)
                 (try rw [z0] at hx145_0); (try rw [Nat.zero_mul] at hx145_0); (try rw [Addr.add_zero'] at hx145_0); (try rw [z0] at hx145_1); (try rw [Nat.zero_mul] at hx145_1); (try rw [Addr.add_zero'] at hx145_1); (try rw [z0] at hx145_2); (try rw [Nat.zero_mul] at hx145_2); (try rw [Addr.add_zero'] at hx145_2); replace hx145_0 := cb HB hx145_0; replace hx145_1 := cb HB hx145_1; replace hx145_2 := cb HB hx145_2; have HR145_1 := Aside0.mk hi145_1; have HC145_1 := Aside0.mk hl145_1; clear hi145_1 hl145_1; have HR145_2 := Aside0.mk hi145_2; have HC145_2 := Aside0.mk hl145_2; clear hi145_2 hl145_2; replace p145 := eq_true p145; replace q145 := eq_true q145
                 have ea_ := Option.some.inj (hx144_1.symm.trans hx145_1)
                 injection ea_ with ea_ en_ ec_
                 subst ea_; subst ec_; clear en_
                 have ea_ := Option.some.inj (hx144_2.symm.trans hx145_2)
                 injection ea_ with ea_ en_ ec_
                 subst ea_; subst ec_; clear en_
                 go_wp2_with (first | ((with_reducible refine gate_callee (f := 101) rfl ?_); refine goesL_ (some 47) rfl rfl Try.func101 (by kernel_rfl) rfl #[.slice A144_1 ((rd_T27 l0 0).f1).length c144_1, .int .i64 x3_2] rfl pA ?_; (with_reducible refine (spec_l3In.calls k2 _ _ ((rd_T27 l0 0).f1) x3_2 t146 _ ?side1 ?side2 A11.out).mono ?_); (case side1 => exact pC (Kd.C_below HR145_1.out HB.out)); (case side2 => exact HC145_1.out); rintro e w' ⟨rfl, ⟨nd, rfl⟩⟩; refine ⟨_, rfl, ?_⟩))
                 go_ret
                 exact ⟨pE, pB⟩
             · rw [if_neg c10] at H
               have c10b0 : decide (x3_2 < (((rd_T27 l0 0).f1).length : Int)) = false := decide_eq_false c10
               clear c10
               obtain ⟨t148, A130, H⟩ := bO H
               replace H : (some t148) = some r := H
               have A13 := Aside0.mk A130; clear A130
               obtain rfl := Option.some.inj H
               have p144 : 0 ≤ (0 : Int) := (by omega)
               have q144 : 0 < (l0.length : Int) := pD
               obtain ⟨ad144, A144_1, c144_1, A144_2, c144_2, e144, hx144_0, hx144_1, hx144_2, hl144_1, hi144_1, hl144_2, hi144_2⟩ := at_T27 HR0.out 0 p144 q144
               obtain rfl : ad141 = ad144 := (by injection e144)
               have qi144 : (0 < l0.length) = True := eq_true (by omega)
               (try rw [z0] at hx144_0); (try rw [Nat.zero_mul] at hx144_0); (try rw [Addr.add_zero'] at hx144_0); (try rw [z0] at hx144_1); (try rw [Nat.zero_mul] at hx144_1); (try rw [Addr.add_zero'] at hx144_1); (try rw [z0] at hx144_2); (try rw [Nat.zero_mul] at hx144_2); (try rw [Addr.add_zero'] at hx144_2); replace hx144_0 := cb HB hx144_0; replace hx144_1 := cb HB hx144_1; replace hx144_2 := cb HB hx144_2; have HR144_1 := Aside0.mk hi144_1; have HC144_1 := Aside0.mk hl144_1; clear hi144_1 hl144_1; have HR144_2 := Aside0.mk hi144_2; have HC144_2 := Aside0.mk hl144_2; clear hi144_2 hl144_2; replace p144 := eq_true p144; replace q144 := eq_true q144
               have p147 : 0 ≤ (0 : Int) := (by omega)
               have q147 : 0 < (l0.length : Int) := pD
               (try clear hx144_0); (try clear hHeld)
               obtain ⟨ad147, A147_1, c147_1, A147_2, c147_2, e147, hx147_0, hx147_1, hx147_2, hl147_1, hi147_1, hl147_2, hi147_2⟩ := at_T27 HR0.out 0 p147 q147
               obtain rfl : ad141 = ad147 := (by injection e147)
               have qi147 : (0 < l0.length) = True := eq_true (by omega)
               (try rw [z0] at hx147_0); (try rw [Nat.zero_mul] at hx147_0); (try rw [Addr.add_zero'] at hx147_0); (try rw [z0] at hx147_1); (try rw [Nat.zero_mul] at hx147_1); (try rw [Addr.add_zero'] at hx147_1); (try rw [z0] at hx147_2); (try rw [Nat.zero_mul] at hx147_2); (try rw [Addr.add_zero'] at hx147_2); replace hx147_0 := cb HB hx147_0; replace hx147_1 := cb HB hx147_1; replace hx147_2 := cb HB hx147_2; have HR147_1 := Aside0.mk hi147_1; have HC147_1 := Aside0.mk hl147_1; clear hi147_1 hl147_1; have HR147_2 := Aside0.mk hi147_2; have HC147_2 := Aside0.mk hl147_2; clear hi147_2 hl147_2; replace p147 := eq_true p147; replace q147 := eq_true q147
               have ea_ := Option.some.inj (hx144_1.symm.trans hx147_1)
               injection ea_ with ea_ en_ ec_
               subst ea_; subst ec_; clear en_
               have ea_ := Option.some.inj (hx144_2.symm.trans hx147_2)
               injection ea_ with ea_ en_ ec_
               subst ea_; subst ec_; clear en_
               go_wp2_with (first | ((with_reducible refine gate_callee (f := 102) rfl ?_); refine goesL_ (some 55) rfl rfl Try.func102 (by kernel_rfl) rfl #[.slice A144_2 ((rd_T27 l0 0).f2).length c144_2] rfl pA ?_; (with_reducible refine (spec_l3Outs.calls k2 _ _ ((rd_T27 l0 0).f2) t148 _ ?side1 ?side2 A13.out).mono ?_); (case side1 => exact pC (Kd.C_below HR147_2.out HB.out)); (case side2 => exact HC147_2.out); rintro e w' ⟨rfl, ⟨nd, rfl⟩⟩; refine ⟨_, rfl, ?_⟩))
               go_ret
               exact ⟨pE, pB⟩
           · rw [if_neg c9] at H
             exact absurd H (by simp)
   · replace c4 := Bool.eq_false_iff.mpr c4
     subst c4
     have H1 : (some 3) = some r := by rw [if_neg (show ¬ (false = true) by decide)] at H; exact H
     clear H; have H := H1; clear H1
     obtain rfl := Option.some.inj H
     have p141 : 0 ≤ (0 : Int) := (by omega)
     have q141 : 0 < (l0.length : Int) := pD
     obtain ⟨ad141, A141_1, c141_1, A141_2, c141_2, e141, hx141_0, hx141_1, hx141_2, hl141_1, hi141_1, hl141_2, hi141_2⟩ := at_T27 HR0.out 0 p141 q141
     cases e141
     have qi141 : (0 < l0.length) = True := eq_true (by omega)
     (try rw [z0] at hx141_0); (try rw [Nat.zero_mul] at hx141_0); (try rw [Addr.add_zero'] at hx141_0); (try rw [z0] at hx141_1); (try rw [Nat.zero_mul] at hx141_1); (try rw [Addr.add_zero'] at hx141_1); (try rw [z0] at hx141_2); (try rw [Nat.zero_mul] at hx141_2); (try rw [Addr.add_zero'] at hx141_2); have HR141_1 := Aside0.mk hi141_1; have HC141_1 := Aside0.mk hl141_1; clear hi141_1 hl141_1; have HR141_2 := Aside0.mk hi141_2; have HC141_2 := Aside0.mk hl141_2; clear hi141_2 hl141_2; replace p141 := eq_true p141; replace q141 := eq_true q141
     go_enter Try.func53, Try.ntmps53
     go_wp2_with (first | ((with_reducible refine gate_callee (f := 81) rfl ?_); refine goesL_ (some 9) rfl rfl Try.func81 (by kernel_rfl) rfl #[.int .i64 ((rd_T27 l0 0).f0), .int .i64 0, .int .i64 65535] rfl pA ?_; (with_reducible refine (spec_l1In.calls ((rd_T27 l0 0).f0) 0 65535 false _ A3.out).mono ?_); rintro e w' ⟨rfl, ⟨nd, rfl⟩⟩; refine ⟨_, rfl, ?_⟩))
     go_ret
     exact ⟨pE, pB⟩
 · rw [if_neg c2] at H
   exact absurd H (by simp)
def spec_l3Fault.f (k : Nat) (a0_0 : Int) (l0_1 : List (S34)) (l0_2 : List (S86)) : Option (Int) := spec_l3Fault_in.f k [(⟨a0_0, l0_1, l0_2⟩ : S27)]
theorem spec_l3Fault.mono : ∀ (a0_0 : Int) (l0_1 : List (S34)) (l0_2 : List (S86)) (k : Nat), LeO (spec_l3Fault.f k a0_0 l0_1 l0_2) (spec_l3Fault.f (k + 1) a0_0 l0_1 l0_2) := fun a0_0 l0_1 l0_2 k => spec_l3Fault_in.mono [(⟨a0_0, l0_1, l0_2⟩ : S27)] k
set_option maxHeartbeats 8000000 in
theorem spec_l3Fault.calls (k : Nat) (a0_0 : Int) (A0_1 : Option Addr) (c0_1 : Nat) (l0_1 : List (S34)) (A0_2 : Option Addr) (c0_2 : Nat) (l0_2 : List (S86)) (r : Int) (w : World) (hr0_1 : Kd.C k34 w A0_1 l0_1.length l0_1) (hc0_1 : l0_1.length ≤ c0_1) (hr0_2 : Kd.C k86 w A0_2 l0_2.length l0_2) (hc0_2 : l0_2.length ≤ c0_2) (h : spec_l3Fault.f k a0_0 l0_1 l0_2 = some r) {pp0 : Addr} (hpp0_0 : w.cell? pp0 = some (.int .i64 a0_0)) (hpp0_1 : w.cell? ⟨pp0.block, pp0.off + 1, none⟩ = some (.slice A0_1 l0_1.length c0_1)) (hpp0_2 : w.cell? ⟨pp0.block, pp0.off + 2, none⟩ = some (.slice A0_2 l0_2.length c0_2)) :
 Calls Try.prog 53 #[.pointer (some pp0)] w fun e w' => e = .returned (.int .i64 r) ∧ Below w.heap.size w w' := by
 have o0 : Kd.C k27 w (some pp0) 1 [(⟨a0_0, l0_1, l0_2⟩ : S27)] := by
  refine ⟨rfl, by decide, fun _ => ⟨pp0, rfl, fun j p hj => ?_⟩⟩
  cases j with
  | succ j => simp at hj
  | zero =>
   obtain rfl : (⟨a0_0, l0_1, l0_2⟩ : S27) = p := by simpa using hj
   refine ⟨_, rfl, k27_mk w _ hc0_1 hr0_1 hc0_2 hr0_2, fun i u hu => ?_⟩
   match i, hu with
   | 0, hu => obtain rfl := Option.some.inj hu; exact hpp0_0
   | 1, hu => obtain rfl := Option.some.inj hu; exact hpp0_1
   | 2, hu => obtain rfl := Option.some.inj hu; exact hpp0_2
 exact spec_l3Fault_in.calls k (some pp0) 1 [(⟨a0_0, l0_1, l0_2⟩ : S27)] r w o0 (Nat.le_refl 1) h
def spec_l3Put.f (a0 : Int) : Option (List Int) := if a0 < 253 then (some (([(a0) % 256] : List Int))) else (some (([253, (Int.tmod a0 256) % 256, (wrap64 (Int.tdiv a0 256)) % 256] : List Int)))
theorem spec_l3Put.calls (a0 : Int) (r : List Int) (w : World) (h : spec_l3Put.f a0 = some r) :
 Calls Try.prog 80 #[.int .i64 a0] w fun e w' => ∃ v0_ : Value, e = .returned (v0_) ∧ Kd.R (Kd.int .u8) 5 w' w.heap.size (fun _ => True) v0_ r ∧ Below w.heap.size w w' := by
 have HB := Aside0.mk (Below.refl w.heap.size w)
 have H : (if a0 < 253 then (some (([(a0) % 256] : List Int))) else (some (([253, (Int.tmod a0 256) % 256, (wrap64 (Int.tdiv a0 256)) % 256] : List Int)))) = some r := h
 clear h
 by_cases c2 : a0 < 253
 · rw [if_pos c2] at H
   have c2b0 : decide (a0 < 253) = true := decide_eq_true c2
   clear c2
   obtain ⟨y149, hy149⟩ : ∃ y_ : List Int, y_ = (([(a0) % 256] : List Int)) := ⟨_, rfl⟩
   replace H : (some y149) = some r := by first | (rw [hy149]; with_reducible exact H) | (have H2_ := (Option.bind_some _ _).symm.trans H; rw [hy149]; with_reducible exact H2_) | (have H2_ := (Option.bind_some _ _).symm.trans H; with_reducible exact H2_) | with_reducible exact H | (rw [hy149]; exact H) | exact H
   have Ny149 := Aside0.mk hy149; clear hy149
   obtain rfl := Option.some.inj H
   go_enter Try.func80, Try.ntmps80
   go_wp2_with (first | ((with_reducible refine gate_dst (N := 7) rfl ?_); refine Kd.R_lit (Kd.int .u8) _ 5 ?hg (N := 7) ?hd (xs := ([(a0) % 256] : List Int)) (inner := [.int .u8 ((a0) % 256)]) (ok := fun _ => True) (okp := fun _ => True) ?hr ?hp (fun _ hk => hk) trivial (Below.refl _ _) (Nat.le_refl _) (by simp) ?_; (case hd => rfl); (case hg => rfl); (case hr => first | (go_simp; done) | (go_simp; rfl)); (case hp => exact (Reps.one (show Kd.M (Kd.int .u8) _ _ _ ((a0) % 256) [.int .u8 ((a0) % 256)] from rfl) (Reps.none _ _))); intro v150 w3 ho4 hb hg_ hnew_; clear hg_ hnew_; (first | rw [← Ny149.out] at ho4 | (simp only [Int.reduceToNat] at ho4; rw [← Ny149.out] at ho4)); have n_ := t2 (Kd.R_lower ho4 (below_size pB)) (below_step pB hb); clear HB; obtain ⟨HO151, HB⟩ := n_; clear hb ho4))
   go_ret
   exact ⟨_, pE, (pR HO151), pB⟩
 · rw [if_neg c2] at H
   have c2b0 : decide (a0 < 253) = false := decide_eq_false c2
   clear c2
   obtain ⟨y152, hy152⟩ : ∃ y_ : List Int, y_ = (([253, (Int.tmod a0 256) % 256, (wrap64 (Int.tdiv a0 256)) % 256] : List Int)) := ⟨_, rfl⟩
   replace H : (some y152) = some r := by first | (rw [hy152]; with_reducible exact H) | (have H2_ := (Option.bind_some _ _).symm.trans H; rw [hy152]; with_reducible exact H2_) | (have H2_ := (Option.bind_some _ _).symm.trans H; with_reducible exact H2_) | with_reducible exact H | (rw [hy152]; exact H) | exact H
   have Ny152 := Aside0.mk hy152; clear hy152
   obtain rfl := Option.some.inj H
   go_enter Try.func80, Try.ntmps80
   go_wp2_with (first | ((with_reducible refine gate_dst (N := 14) rfl ?_); refine Kd.R_lit (Kd.int .u8) _ 5 ?hg (N := 14) ?hd (xs := ([253, (Int.tmod a0 256) % 256, (wrap64 (Int.tdiv a0 256)) % 256] : List Int)) (inner := [.int .u8 253, .int .u8 ((Int.tmod a0 256) % 256), .int .u8 ((wrap64 (Int.tdiv a0 256)) % 256)]) (ok := fun _ => True) (okp := fun _ => True) ?hr ?hp (fun _ hk => hk) trivial (Below.refl _ _) (Nat.le_refl _) (by simp) ?_; (case hd => rfl); (case hg => rfl); (case hr => first | (go_simp; done) | (go_simp; rfl)); (case hp => exact (Reps.one (show Kd.M (Kd.int .u8) _ _ _ 253 [.int .u8 253] from rfl) (Reps.one (show Kd.M (Kd.int .u8) _ _ _ ((Int.tmod a0 256) % 256) [.int .u8 ((Int.tmod a0 256) % 256)] from rfl) (Reps.one (show Kd.M (Kd.int .u8) _ _ _ ((wrap64 (Int.tdiv a0 256)) % 256) [.int .u8 ((wrap64 (Int.tdiv a0 256)) % 256)] from rfl) (Reps.none _ _))))); intro v153 w5 ho6 hb hg_ hnew_; clear hg_ hnew_; (first | rw [← Ny152.out] at ho6 | (simp only [Int.reduceToNat] at ho6; rw [← Ny152.out] at ho6)); have n_ := t2 (Kd.R_lower ho6 (below_size pB)) (below_step pB hb); clear HB; obtain ⟨HO154, HB⟩ := n_; clear hb ho6))
   go_ret
   exact ⟨_, pE, (pR HO154), pB⟩
def spec_l3Big.f (a0 : Int) : Option (List Int) := (spec_l3Put.f (Int.tmod a0 65536)).bind fun t155 => ((spec_l3Put.f (wrap64 (Int.tdiv a0 65536))).bind fun t158 => (if t155.length + t158.length < 140737488355328 then (some (t155 ++ t158)) else (none)))
theorem spec_l3Big.calls (a0 : Int) (r : List Int) (w : World) (h : spec_l3Big.f a0 = some r) :
 Calls Try.prog 125 #[.int .i64 a0] w fun e w' => ∃ v0_ : Value, e = .returned (v0_) ∧ Kd.R (Kd.int .u8) 5 w' w.heap.size (fun _ => True) v0_ r ∧ Below w.heap.size w w' := by
 have HB := Aside0.mk (Below.refl w.heap.size w)
 have H : ((spec_l3Put.f (Int.tmod a0 65536)).bind fun t155 => ((spec_l3Put.f (wrap64 (Int.tdiv a0 65536))).bind fun t158 => (if t155.length + t158.length < 140737488355328 then (some (t155 ++ t158)) else (none)))) = some r := h
 clear h
 obtain ⟨t155, A20, H⟩ := bO H
 replace H : ((spec_l3Put.f (wrap64 (Int.tdiv a0 65536))).bind fun t158 => (if t155.length + t158.length < 140737488355328 then (some (t155 ++ t158)) else (none))) = some r := H
 have A2 := Aside0.mk A20; clear A20
 obtain ⟨t158, A30, H⟩ := bO H
 replace H : (if t155.length + t158.length < 140737488355328 then (some (t155 ++ t158)) else (none)) = some r := H
 have A3 := Aside0.mk A30; clear A30
 by_cases c4 : t155.length + t158.length < 140737488355328
 · rw [if_pos c4] at H
   have LMc4 := Aside0.mk c4; clear c4
   obtain ⟨y161, hy161⟩ : ∃ y_ : List Int, y_ = (t155 ++ t158) := ⟨_, rfl⟩
   replace H : (some y161) = some r := by first | (rw [hy161]; with_reducible exact H) | (have H2_ := (Option.bind_some _ _).symm.trans H; rw [hy161]; with_reducible exact H2_) | (have H2_ := (Option.bind_some _ _).symm.trans H; with_reducible exact H2_) | with_reducible exact H | (rw [hy161]; exact H) | exact H
   have Ny161 := Aside0.mk hy161; clear hy161
   obtain rfl := Option.some.inj H
   go_enter Try.func125, Try.ntmps125
   go_wp2_with (first | ((with_reducible refine gate_callee (f := 80) rfl ?_); refine goesL_ (some 5) rfl rfl Try.func80 (by kernel_rfl) rfl #[.int .i64 (Int.tmod a0 65536)] rfl pA ?_; (with_reducible refine (spec_l3Put.calls (Int.tmod a0 65536) t155 _ A2.out).mono ?_); rintro e w5 ⟨v156, rfl, ho0, hb⟩; refine ⟨_, rfl, ?_⟩; have n_ := t2 (Kd.R_lower ho0 (below_size pB)) (below_step pB hb); clear HB; obtain ⟨HO157, HB⟩ := n_; (try clear hb); (try clear ho0)) | ((with_reducible refine gate_callee (f := 80) rfl ?_); refine goesL_ (some 8) rfl rfl Try.func80 (by kernel_rfl) rfl #[.int .i64 (wrap64 (Int.tdiv a0 65536))] rfl pA ?_; (with_reducible refine (spec_l3Put.calls (wrap64 (Int.tdiv a0 65536)) t158 _ A3.out).mono ?_); rintro e w6 ⟨v159, rfl, ho0, hb⟩; refine ⟨_, rfl, ?_⟩; have n_ := t3 (Kd.R_elder' (pR HO157) (Kd.R_base ho0) hb) (Kd.R_lower (Kd.R_new' ho0 (Kd.R_lt (pR HO157))) (below_size pB)) (below_step pB hb); clear HO157 HB; obtain ⟨HO157, HO160, HB⟩ := n_; (try clear hb); (try clear ho0); obtain ⟨Ao8, co8, eo8⟩ := Kd.R_slice HO160.out; subst eo8) | ((with_reducible refine gate_builtin (b := .append) (xs := #[.tmp 5, .tmp 8]) rfl ?_); at_builtin; refine Kd.R_append_rows (Kd.int .u8) (w0 := w) w.heap.size rfl (.tmp 5) (.tmp 8) 22 5 (.int .u8 0) 1 rfl Try.underlying22 info5 rfl (by decide) (by omega) v156 t155 t158 _ _ _ (fun k_ => some k_ ≠ (.slice Ao8 t158.length co8 : Value).ownBlock) (fun _ => False) rfl rfl ?aO ?aR (fun _ _ h => h) (fun _ h => h.elim) ?aF ?aB ?aS ?aL ?_; (case aR => exact pC (Kd.R_reads' HO160.out).2.2); (case aB => exact pB); (case aF => exact (fun k_ hk => Kd.fresh' (Kd.R_lt (pR HO160)) k_ hk)); (case aO => exact (pT (Kd.R_mono HO157.out (fun _ hk => hk.2)))); (case aS => exact (below_size pB)); (case aL => have := LMc4.out; omega); intro v162 w7 ho hb hg hat; rw [← Ny161.out] at ho; have n_ := t3 (Kd.R_after (ok := (fun _ => True)) (pR HO160) hg hat) (hb) (ho); clear HO160 HB HO157; obtain ⟨HO160, HB, HO163⟩ := n_; clear ho hb hg hat))
   go_ret
   exact ⟨_, pE, (pT (Kd.R_mono HO163.out (fun _ hk => trivial))), pB⟩
 · rw [if_neg c4] at H
   exact absurd H (by simp)
end Go.Proofs.Ythjlbpgiaehjnaa.QFnExactBlockFault
