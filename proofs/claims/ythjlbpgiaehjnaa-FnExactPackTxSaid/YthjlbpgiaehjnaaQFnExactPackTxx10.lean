-- written by this session's program (wip/tools/myprint.py)
import Derived.Test.YthjlbpgiaehjnaaQFnExactPackTxx0
import Derived.Test.YthjlbpgiaehjnaaQFnExactPackTxx8
import Derived.Test.YthjlbpgiaehjnaaQFnExactPackTxx9
-- squeezed
namespace Go.Proofs.Ythjlbpgiaehjnaa.QFnExactPackTx
open Go.RowKit Go.Proofs.YthjlbpgiaehjnaaW.PrintWords Go.Proofs.YthjlbpgiaehjnaaW.PrintLast Go.Proofs.YthjlbpgiaehjnaaW.PrintMore
attribute [local go_sem] max2_int min2_int max_two min_two max_three min_three max_four min_four   -- for this text's walks alone
set_option linter.unusedVariables false
set_option linter.unusedSimpArgs false
set_option maxHeartbeats 8000000
set_option maxRecDepth 100000
def spec_l3Outs.l0 : Nat → List (S86) → Int → Int → Option (Int)
 | 0, _, _, _ => none
 | k + 1, x0, x3, x4 => if x4 < (x0.length : Int) then (if 0 ≤ x4 then ((spec_l1Amount.f ((rd_T86 x0 x4).f0)).bind fun t324 => (if t324 = true then ((spec_l2Fault.f k ((rd_T86 x0 x4).f1)).bind fun t326 => (if t326 = 0 then (spec_l3Outs.l0 k x0 (wrap64 (x3 + ((rd_T86 x0 x4).f0))) (wrap64 (x4 + 1))) else (some t326))) else (some 3))) else (none)) else ((spec_l1Amount.f x3).bind fun t322 => (if t322 = true then (some 0) else (some 7)))
def spec_l3Outs.f (k : Nat) (l0 : List (S86)) : Option (Int) := spec_l3Outs.l0 k l0 0 0
theorem spec_l3Outs.mono_l : ∀ k, (∀ y0 y1 y2, LeO (spec_l3Outs.l0 k y0 y1 y2) (spec_l3Outs.l0 (k + 1) y0 y1 y2))
 | 0 => fun _ _ _ r h => by simp [spec_l3Outs.l0] at h
 | k + 1 => by
  have ih0 := spec_l3Outs.mono_l k
  · intro y0 y1 y2
    unfold spec_l3Outs.l0
    repeat' with_reducible first | exact ih0 _ _ _ | exact spec_l2Fault.mono _ _ | exact LeO.refl _ | exact LeO.none _ | refine LeO.ite ?_ ?_ | refine LeO.bind ?_ (fun _ => ?_)
theorem spec_l3Outs.mono : ∀ a0 k, LeO (spec_l3Outs.f k a0) (spec_l3Outs.f (k + 1) a0) := by
 intro a0 k
 have ih0 := spec_l3Outs.mono_l k
 unfold spec_l3Outs.f
 repeat' with_reducible first | exact ih0 _ _ _ | exact spec_l2Fault.mono _ _ | exact LeO.refl _ | exact LeO.none _ | refine LeO.ite ?_ ?_ | refine LeO.bind ?_ (fun _ => ?_)
theorem spec_l3Outs.calls (k : Nat) (A0 : Option Addr) (c0 : Nat) (l0 : List (S86)) (r : Int) (w : World) (hr0 : Kd.C k86 w A0 l0.length l0) (hc0 : l0.length ≤ c0) (h : spec_l3Outs.f k l0 = some r) :
 Calls Try.prog 102 #[.slice A0 l0.length c0] w fun e w' => e = .returned (.int .i64 r) ∧ Drawn0 w w' := by
 have HR0 := am hr0; have HC0 := am hc0; clear hr0 hc0
 have H : (spec_l3Outs.l0 k l0 0 0) = some r := h
 clear h
 have H' := am H
 clear H
 go_enter Try.func102, Try.ntmps102
 go_wp2
 go_loopg [3, 4] k (fun kq v3 v4 w' => ∃ (x3_1 : Int) (x4_1 : Int), v3 = .int .i64 x3_1 ∧ v4 = .int .i64 x4_1 ∧ Aside0 (spec_l3Outs.l0 kq l0 x3_1 x4_1 = some r) ∧ Aside0 (kq ≤ k) ∧ Drawn0 w w')
 case atStart => exact ⟨(0), (0), pF, pF, H', ⟨Nat.le_refl _⟩, pW⟩
 case round =>
  clear H'
  obtain ⟨x3_1, x4_1, rfl, rfl, HA, HK1, ⟨m1, rfl⟩⟩ := hrel
  cases gk with
  | zero => exact absurd HA.out (by simp [spec_l3Outs.l0])
  | succ k1 =>
   have H := HA.out
   clear HA
   simp only [spec_l3Outs.l0] at H
   by_cases c2 : x4_1 < (l0.length : Int)
   · rw [if_pos c2] at H
     have c2b0 : decide (x4_1 < (l0.length : Int)) = true := dt c2
     clear c2
     by_cases c3 : 0 ≤ x4_1
     · rw [if_pos c3] at H
       have c3b0 : decide (0 ≤ x4_1) = true := dt c3
       clear c3
       obtain ⟨t324, A40, H⟩ := bO H
       replace H : (if t324 = true then ((spec_l2Fault.f k1 ((rd_T86 l0 x4_1).f1)).bind fun t326 => (if t326 = 0 then (spec_l3Outs.l0 k1 l0 (wrap64 (x3_1 + ((rd_T86 l0 x4_1).f0))) (wrap64 (x4_1 + 1))) else (some t326))) else (some 3)) = some r := H
       have A4 := am A40; clear A40
       by_cases c5 : t324 = true
       · subst c5
         have H1 : ((spec_l2Fault.f k1 ((rd_T86 l0 x4_1).f1)).bind fun t326 => (if t326 = 0 then (spec_l3Outs.l0 k1 l0 (wrap64 (x3_1 + ((rd_T86 l0 x4_1).f0))) (wrap64 (x4_1 + 1))) else (some t326))) = some r := by rw [if_pos rfl] at H; exact H
         clear H; have H := H1; clear H1
         obtain ⟨t326, A60, H⟩ := bO H
         replace H : (if t326 = 0 then (spec_l3Outs.l0 k1 l0 (wrap64 (x3_1 + ((rd_T86 l0 x4_1).f0))) (wrap64 (x4_1 + 1))) else (some t326)) = some r := H
         have A6 := am A60; clear A60
         by_cases c7 : t326 = 0
         · rw [if_pos c7] at H
           have c7b0 : (t326 == 0) = true := beq_iff_eq.mpr c7
           have c7b1 : (t326 != 0) = false := bne_eq_false_iff_eq.mpr c7
           clear c7
           have H' := am H
           clear H
           have p323 : 0 ≤ (x4_1 : Int) := pD
           have q323 : x4_1 < (l0.length : Int) := pD
           obtain ⟨ad323, A323_1, c323_1, e323, hx323_0, hx323_1, hl323_1, hi323_1⟩ := at_T86 HR0.out x4_1 p323 q323
           cases e323; have HR323_1 := am hi323_1; have HC323_1 := am hl323_1; clear hi323_1 hl323_1; replace p323 := eq_true p323; replace q323 := eq_true q323
           go_wp2_with (first | ((with_reducible refine gC (f := 138) rfl ?_); refine goesL_ (some 17) rfl rfl Try.func138 (by kernel_rfl) rfl #[.int .i64 ((rd_T86 l0 x4_1).f0)] rfl pA ?_; (with_reducible refine (spec_l1Amount.calls ((rd_T86 l0 x4_1).f0) true _ A4.out).mono ?_); rintro e w' ⟨rfl, ⟨nd, rfl⟩⟩; refine ⟨_, rfl, ?_⟩; have p325 : 0 ≤ (x4_1 : Int) := pD; have q325 : x4_1 < (l0.length : Int) := pD; obtain ⟨ad325, A325_1, c325_1, e325, hx325_0, hx325_1, hl325_1, hi325_1⟩ := at_T86 HR0.out x4_1 p325 q325; obtain rfl : ad323 = ad325 := (by injection e325); have HR325_1 := am hi325_1; have HC325_1 := am hl325_1; clear hi325_1 hl325_1; replace p325 := eq_true p325; replace q325 := eq_true q325; have ea_ := sj (hx323_1.symm.trans hx325_1); injection ea_ with ea_ en_ ec_; subst ea_; subst ec_; clear en_) | ((with_reducible refine gC (f := 139) rfl ?_); refine goesL_ (some 24) rfl rfl Try.func139 (by kernel_rfl) rfl #[.slice A323_1 ((rd_T86 l0 x4_1).f1).length c323_1] rfl pA ?_; (with_reducible refine (spec_l2Fault.calls k1 _ _ ((rd_T86 l0 x4_1).f1) t326 _ ?side1 ?side2 A6.out).mono ?_); (case side1 => exact pC HR325_1.out); (case side2 => exact HC325_1.out); rintro e w' ⟨rfl, ⟨nd, rfl⟩⟩; refine ⟨_, rfl, ?_⟩; have p327 : 0 ≤ (x4_1 : Int) := pD; have q327 : x4_1 < (l0.length : Int) := pD; obtain ⟨ad327, A327_1, c327_1, e327, hx327_0, hx327_1, hl327_1, hi327_1⟩ := at_T86 HR0.out x4_1 p327 q327; obtain rfl : ad323 = ad327 := (by injection e327); have HR327_1 := am hi327_1; have HC327_1 := am hl327_1; clear hi327_1 hl327_1; replace p327 := eq_true p327; replace q327 := eq_true q327; have ea_ := sj (hx323_1.symm.trans hx327_1); injection ea_ with ea_ en_ ec_; subst ea_; subst ec_; clear en_))
           go_roundg k1
           case measure => have := HK1.out; omega
           case rel => exact ⟨(wrap64 (x3_1 + ((rd_T86 l0 x4_1).f0))), (wrap64 (x4_1 + 1)), pF, pF, H', ⟨by have := HK1.out; omega⟩, pW⟩
         · rw [if_neg c7] at H
           have c7b0 : (t326 == 0) = false := beq_eq_false_iff_ne.mpr c7
           have c7b1 : (t326 != 0) = true := bne_iff_ne.mpr c7
           obtain rfl := sj H
           have p323 : 0 ≤ (x4_1 : Int) := pD
           have q323 : x4_1 < (l0.length : Int) := pD
           obtain ⟨ad323, A323_1, c323_1, e323, hx323_0, hx323_1, hl323_1, hi323_1⟩ := at_T86 HR0.out x4_1 p323 q323
           cases e323; have HR323_1 := am hi323_1; have HC323_1 := am hl323_1; clear hi323_1 hl323_1; replace p323 := eq_true p323; replace q323 := eq_true q323
           go_wp2_with (first | ((with_reducible refine gC (f := 138) rfl ?_); refine goesL_ (some 17) rfl rfl Try.func138 (by kernel_rfl) rfl #[.int .i64 ((rd_T86 l0 x4_1).f0)] rfl pA ?_; (with_reducible refine (spec_l1Amount.calls ((rd_T86 l0 x4_1).f0) true _ A4.out).mono ?_); rintro e w' ⟨rfl, ⟨nd, rfl⟩⟩; refine ⟨_, rfl, ?_⟩; have p325 : 0 ≤ (x4_1 : Int) := pD; have q325 : x4_1 < (l0.length : Int) := pD; obtain ⟨ad325, A325_1, c325_1, e325, hx325_0, hx325_1, hl325_1, hi325_1⟩ := at_T86 HR0.out x4_1 p325 q325; obtain rfl : ad323 = ad325 := (by injection e325); have HR325_1 := am hi325_1; have HC325_1 := am hl325_1; clear hi325_1 hl325_1; replace p325 := eq_true p325; replace q325 := eq_true q325; have ea_ := sj (hx323_1.symm.trans hx325_1); injection ea_ with ea_ en_ ec_; subst ea_; subst ec_; clear en_) | ((with_reducible refine gC (f := 139) rfl ?_); refine goesL_ (some 24) rfl rfl Try.func139 (by kernel_rfl) rfl #[.slice A323_1 ((rd_T86 l0 x4_1).f1).length c323_1] rfl pA ?_; (with_reducible refine (spec_l2Fault.calls k1 _ _ ((rd_T86 l0 x4_1).f1) t326 _ ?side1 ?side2 A6.out).mono ?_); (case side1 => exact pC HR325_1.out); (case side2 => exact HC325_1.out); rintro e w' ⟨rfl, ⟨nd, rfl⟩⟩; refine ⟨_, rfl, ?_⟩))
           go_ret
           exact ⟨by first | rfl | (simp; done) | (simp [*]; done), pW⟩
       · replace c5 := Bool.eq_false_iff.mpr c5
         subst c5
         have H1 : (some 3) = some r := by rw [if_neg (show ¬ (false = true) by decide)] at H; exact H
         clear H; have H := H1; clear H1
         obtain rfl := sj H
         have p323 : 0 ≤ (x4_1 : Int) := pD
         have q323 : x4_1 < (l0.length : Int) := pD
         obtain ⟨ad323, A323_1, c323_1, e323, hx323_0, hx323_1, hl323_1, hi323_1⟩ := at_T86 HR0.out x4_1 p323 q323
         cases e323; have HR323_1 := am hi323_1; have HC323_1 := am hl323_1; clear hi323_1 hl323_1; replace p323 := eq_true p323; replace q323 := eq_true q323
         go_wp2_with (first | ((with_reducible refine gC (f := 138) rfl ?_); refine goesL_ (some 17) rfl rfl Try.func138 (by kernel_rfl) rfl #[.int .i64 ((rd_T86 l0 x4_1).f0)] rfl pA ?_; (with_reducible refine (spec_l1Amount.calls ((rd_T86 l0 x4_1).f0) false _ A4.out).mono ?_); rintro e w' ⟨rfl, ⟨nd, rfl⟩⟩; refine ⟨_, rfl, ?_⟩))
         go_ret
         exact ⟨by first | rfl | (simp; done) | (simp [*]; done), pW⟩
     · rw [if_neg c3] at H
       exact absurd H (by simp)
   · rw [if_neg c2] at H
     have c2b0 : decide (x4_1 < (l0.length : Int)) = false := decide_eq_false c2
     clear c2
     obtain ⟨t322, A80, H⟩ := bO H
     replace H : (if t322 = true then (some 0) else (some 7)) = some r := H
     have A8 := am A80; clear A80
     by_cases c9 : t322 = true
     · subst c9
       have H1 : (some 0) = some r := by rw [if_pos rfl] at H; exact H
       clear H; have H := H1; clear H1
       obtain rfl := sj H
       go_wp2_with (first | ((with_reducible refine gC (f := 138) rfl ?_); refine goesL_ (some 36) rfl rfl Try.func138 (by kernel_rfl) rfl #[.int .i64 x3_1] rfl pA ?_; (with_reducible refine (spec_l1Amount.calls x3_1 true _ A8.out).mono ?_); rintro e w' ⟨rfl, ⟨nd, rfl⟩⟩; refine ⟨_, rfl, ?_⟩))
       go_ret
       exact ⟨by first | rfl | (simp; done) | (simp [*]; done), pW⟩
     · replace c9 := Bool.eq_false_iff.mpr c9
       subst c9
       have H1 : (some 7) = some r := by rw [if_neg (show ¬ (false = true) by decide)] at H; exact H
       clear H; have H := H1; clear H1
       obtain rfl := sj H
       go_wp2_with (first | ((with_reducible refine gC (f := 138) rfl ?_); refine goesL_ (some 36) rfl rfl Try.func138 (by kernel_rfl) rfl #[.int .i64 x3_1] rfl pA ?_; (with_reducible refine (spec_l1Amount.calls x3_1 false _ A8.out).mono ?_); rintro e w' ⟨rfl, ⟨nd, rfl⟩⟩; refine ⟨_, rfl, ?_⟩))
       go_ret
       exact ⟨by first | rfl | (simp; done) | (simp [*]; done), pW⟩
mutual
def spec_l3Fault_in.j0 : Nat → List (S27) → Bool → Option (Int)
 | 0, _, _ => none
 | k + 1, x0, x32 => if x32 = true then (some 2) else (spec_l3Fault_in.l0 k x0 0)
def spec_l3Fault_in.l0 : Nat → List (S27) → Int → Option (Int)
 | 0, _, _ => none
 | k + 1, x0, x3 => if 0 < (x0.length : Int) then (if x3 < (((rd_T27 x0 0).f1).length : Int) then ((spec_l3In.f k ((rd_T27 x0 0).f1) x3).bind fun t333 => (if t333 = 0 then (spec_l3Fault_in.l0 k x0 (wrap64 (x3 + 1))) else (some t333))) else ((spec_l3Outs.f k ((rd_T27 x0 0).f2)).bind fun t335 => (some t335))) else (none)
end
def spec_l3Fault_in.f (k : Nat) (l0 : List (S27)) : Option (Int) := if 0 < (l0.length : Int) then ((spec_l1In.f ((rd_T27 l0 0).f0) 0 65535).bind fun t329 => (if t329 = true then (if (((rd_T27 l0 0).f1).length : Int) > 4 then (spec_l3Fault_in.j0 k l0 true) else (if (((rd_T27 l0 0).f2).length : Int) < 1 then (spec_l3Fault_in.j0 k l0 true) else (spec_l3Fault_in.j0 k l0 (decide ((((rd_T27 l0 0).f2).length : Int) > 4))))) else (some 3))) else (none)
theorem spec_l3Fault_in.mono_l : ∀ k, (∀ y0 y1, LeO (spec_l3Fault_in.j0 k y0 y1) (spec_l3Fault_in.j0 (k + 1) y0 y1)) ∧ (∀ y0 y1, LeO (spec_l3Fault_in.l0 k y0 y1) (spec_l3Fault_in.l0 (k + 1) y0 y1))
 | 0 => ⟨fun _ _ r h => by simp [spec_l3Fault_in.j0] at h, fun _ _ r h => by simp [spec_l3Fault_in.l0] at h⟩
 | k + 1 => by
  obtain ⟨ih0, ih1⟩ := spec_l3Fault_in.mono_l k
  refine ⟨?_, ?_⟩
  · intro y0 y1
    unfold spec_l3Fault_in.j0
    repeat' with_reducible first | exact ih0 _ _ | exact ih1 _ _ | exact spec_l3In.mono _ _ _ | exact spec_l3Outs.mono _ _ | exact LeO.refl _ | exact LeO.none _ | refine LeO.ite ?_ ?_ | refine LeO.bind ?_ (fun _ => ?_)
  · intro y0 y1
    unfold spec_l3Fault_in.l0
    repeat' with_reducible first | exact ih0 _ _ | exact ih1 _ _ | exact spec_l3In.mono _ _ _ | exact spec_l3Outs.mono _ _ | exact LeO.refl _ | exact LeO.none _ | refine LeO.ite ?_ ?_ | refine LeO.bind ?_ (fun _ => ?_)
theorem spec_l3Fault_in.mono : ∀ a0 k, LeO (spec_l3Fault_in.f k a0) (spec_l3Fault_in.f (k + 1) a0) := by
 intro a0 k
 obtain ⟨ih0, ih1⟩ := spec_l3Fault_in.mono_l k
 unfold spec_l3Fault_in.f
 repeat' with_reducible first | exact ih0 _ _ | exact ih1 _ _ | exact spec_l3In.mono _ _ _ | exact spec_l3Outs.mono _ _ | exact LeO.refl _ | exact LeO.none _ | refine LeO.ite ?_ ?_ | refine LeO.bind ?_ (fun _ => ?_)
theorem spec_l3Fault_in.calls (k : Nat) (A0 : Option Addr) (c0 : Nat) (l0 : List (S27)) (r : Int) (w : World) (hr0 : Kd.C k27 w A0 l0.length l0) (hc0 : l0.length ≤ c0) (h : spec_l3Fault_in.f k l0 = some r) :
 Calls Try.prog 53 #[.pointer A0] w fun e w' => e = .returned (.int .i64 r) ∧ Below w.heap.size w w' := by
 have HR0 := am hr0; have HC0 := am hc0; clear hr0 hc0
 have HB := am (Below.refl w.heap.size w)
 have H : (if 0 < (l0.length : Int) then ((spec_l1In.f ((rd_T27 l0 0).f0) 0 65535).bind fun t329 => (if t329 = true then (if (((rd_T27 l0 0).f1).length : Int) > 4 then (spec_l3Fault_in.j0 k l0 true) else (if (((rd_T27 l0 0).f2).length : Int) < 1 then (spec_l3Fault_in.j0 k l0 true) else (spec_l3Fault_in.j0 k l0 (decide ((((rd_T27 l0 0).f2).length : Int) > 4))))) else (some 3))) else (none)) = some r := h
 clear h
 by_cases c2 : 0 < (l0.length : Int)
 · rw [if_pos c2] at H
   have c2b0 : decide (0 < (l0.length : Int)) = true := dt c2
   have c2b1 : decide (0 < l0.length) = true := dt (by omega)
   clear c2
   obtain ⟨t329, A30, H⟩ := bO H
   replace H : (if t329 = true then (if (((rd_T27 l0 0).f1).length : Int) > 4 then (spec_l3Fault_in.j0 k l0 true) else (if (((rd_T27 l0 0).f2).length : Int) < 1 then (spec_l3Fault_in.j0 k l0 true) else (spec_l3Fault_in.j0 k l0 (decide ((((rd_T27 l0 0).f2).length : Int) > 4))))) else (some 3)) = some r := H
   have A3 := am A30; clear A30
   by_cases c4 : t329 = true
   · subst c4
     have H1 : (if (((rd_T27 l0 0).f1).length : Int) > 4 then (spec_l3Fault_in.j0 k l0 true) else (if (((rd_T27 l0 0).f2).length : Int) < 1 then (spec_l3Fault_in.j0 k l0 true) else (spec_l3Fault_in.j0 k l0 (decide ((((rd_T27 l0 0).f2).length : Int) > 4))))) = some r := by rw [if_pos rfl] at H; exact H
     clear H; have H := H1; clear H1; have HC5 := am H; clear H
     have p328 : 0 ≤ (0 : Int) := (by omega)
     have q328 : 0 < (l0.length : Int) := pD
     obtain ⟨ad328, A328_1, c328_1, A328_2, c328_2, e328, hx328_0, hx328_1, hx328_2, hl328_1, hi328_1, hl328_2, hi328_2⟩ := at_T27 HR0.out 0 p328 q328
     cases e328
     have qi328 : (0 < l0.length) = True := eq_true (by omega)
     (try rw [z0, zm, az] at hx328_0); (try rw [z0, zm, az] at hx328_1); (try rw [z0, zm, az] at hx328_2); have HR328_1 := am hi328_1; have HC328_1 := am hl328_1; clear hi328_1 hl328_1; have HR328_2 := am hi328_2; have HC328_2 := am hl328_2; clear hi328_2 hl328_2; replace p328 := eq_true p328; replace q328 := eq_true q328
     go_enter Try.func53, Try.ntmps53
     go_upto_region 3 with (first | ((with_reducible refine gC (f := 81) rfl ?_); refine goesL_ (some 9) rfl rfl Try.func81 (by kernel_rfl) rfl #[.int .i64 ((rd_T27 l0 0).f0), .int .i64 0, .int .i64 65535] rfl pA ?_; (with_reducible refine (spec_l1In.calls ((rd_T27 l0 0).f0) 0 65535 true _ A3.out).mono ?_); rintro e w' ⟨rfl, ⟨nd, rfl⟩⟩; refine ⟨_, rfl, ?_⟩))
     (try simp only [Act.put, List.setIfInBounds_toArray, List.set_cons_zero, List.set_cons_succ])
     go_cut [32] (fun v32 wc => ∃ (kq : Nat) (x32_4 : Bool), v32 = .bool x32_4 ∧ Aside0 (spec_l3Fault_in.j0 kq l0 x32_4 = some r) ∧ Aside0 (kq ≤ k) ∧ Aside0 (Below w.heap.size w wc))
     case first =>
      have H := HC5.out
      clear HC5
      by_cases c6 : (((rd_T27 l0 0).f1).length : Int) > 4
      · rw [if_pos c6] at H
        have c6b0 : decide (4 < (((rd_T27 l0 0).f1).length : Int)) = true := dt c6
        have c6b1 : decide (4 < ((rd_T27 l0 0).f1).length) = true := dt (by omega)
        clear c6
        (first | rw [c6b0] | (simp only [i64_w, i32_w]; rw [c6b0]) | skip)
        have H' := am H
        clear H
        have p330 : 0 ≤ (0 : Int) := (by omega)
        have q330 : 0 < (l0.length : Int) := pD
        (try clear hx328_0); (try clear hx328_1); (try clear hx328_2); (try clear hHeld)
        obtain ⟨ad330, A330_1, c330_1, A330_2, c330_2, e330, hx330_0, hx330_1, hx330_2, hl330_1, hi330_1, hl330_2, hi330_2⟩ := at_T27 HR0.out 0 p330 q330
        obtain rfl : ad328 = ad330 := (by injection e330)
        have qi330 : (0 < l0.length) = True := eq_true (by omega)
        (try rw [z0, zm, az] at hx330_0); (try rw [z0, zm, az] at hx330_1); (try rw [z0, zm, az] at hx330_2); replace hx330_0 := cb HB hx330_0; replace hx330_1 := cb HB hx330_1; replace hx330_2 := cb HB hx330_2; have HR330_1 := am hi330_1; have HC330_1 := am hl330_1; clear hi330_1 hl330_1; have HR330_2 := am hi330_2; have HC330_2 := am hl330_2; clear hi330_2 hl330_2; replace p330 := eq_true p330; replace q330 := eq_true q330
        go_wp2
        go_meet
        case rel => exact ⟨_, (true), pF, H', ⟨by first | omega | exact Nat.le_refl _⟩, ⟨pB⟩⟩
      · rw [if_neg c6] at H
        have c6b0 : decide (4 < (((rd_T27 l0 0).f1).length : Int)) = false := decide_eq_false c6
        have c6b1 : decide (4 < ((rd_T27 l0 0).f1).length) = false := decide_eq_false (by omega)
        clear c6
        (first | rw [c6b0] | (simp only [i64_w, i32_w]; rw [c6b0]) | skip)
        by_cases c7 : (((rd_T27 l0 0).f2).length : Int) < 1
        · rw [if_pos c7] at H
          have c7b0 : decide ((((rd_T27 l0 0).f2).length : Int) < 1) = true := dt c7
          have c7b1 : decide (((rd_T27 l0 0).f2).length < 1) = true := dt (by omega)
          clear c7
          have H' := am H
          clear H
          have p330 : 0 ≤ (0 : Int) := (by omega)
          have q330 : 0 < (l0.length : Int) := pD
          obtain ⟨ad330, A330_1, c330_1, A330_2, c330_2, e330, hx330_0, hx330_1, hx330_2, hl330_1, hi330_1, hl330_2, hi330_2⟩ := at_T27 HR0.out 0 p330 q330
          obtain rfl : ad328 = ad330 := (by injection e330)
          have qi330 : (0 < l0.length) = True := eq_true (by omega)
          (try rw [z0, zm, az] at hx330_0); (try rw [z0, zm, az] at hx330_1); (try rw [z0, zm, az] at hx330_2); replace hx330_0 := cb HB hx330_0; replace hx330_1 := cb HB hx330_1; replace hx330_2 := cb HB hx330_2; have HR330_1 := am hi330_1; have HC330_1 := am hl330_1; clear hi330_1 hl330_1; have HR330_2 := am hi330_2; have HC330_2 := am hl330_2; clear hi330_2 hl330_2; replace p330 := eq_true p330; replace q330 := eq_true q330
          go_wp2
          go_meet
          case rel => exact ⟨_, (true), pF, H', ⟨by first | omega | exact Nat.le_refl _⟩, ⟨pB⟩⟩
        · rw [if_neg c7] at H
          have c7b0 : decide ((((rd_T27 l0 0).f2).length : Int) < 1) = false := decide_eq_false c7
          have c7b1 : decide (((rd_T27 l0 0).f2).length < 1) = false := decide_eq_false (by omega)
          clear c7
          have H' := am H
          clear H
          have p330 : 0 ≤ (0 : Int) := (by omega)
          have q330 : 0 < (l0.length : Int) := pD
          obtain ⟨ad330, A330_1, c330_1, A330_2, c330_2, e330, hx330_0, hx330_1, hx330_2, hl330_1, hi330_1, hl330_2, hi330_2⟩ := at_T27 HR0.out 0 p330 q330
          obtain rfl : ad328 = ad330 := (by injection e330)
          have qi330 : (0 < l0.length) = True := eq_true (by omega)
          (try rw [z0, zm, az] at hx330_0); (try rw [z0, zm, az] at hx330_1); (try rw [z0, zm, az] at hx330_2); replace hx330_0 := cb HB hx330_0; replace hx330_1 := cb HB hx330_1; replace hx330_2 := cb HB hx330_2; have HR330_1 := am hi330_1; have HC330_1 := am hl330_1; clear hi330_1 hl330_1; have HR330_2 := am hi330_2; have HC330_2 := am hl330_2; clear hi330_2 hl330_2; replace p330 := eq_true p330; replace q330 := eq_true q330
          go_wp2
          go_meet
          case rel => exact ⟨_, (decide ((((rd_T27 l0 0).f2).length : Int) > 4)), pF, H', ⟨by first | omega | exact Nat.le_refl _⟩, ⟨pB⟩⟩
     case rest =>
      clear HC5; (try clear c2); (try clear c2b0); (try clear c2b1); (try clear c4); (try clear hx328_0); (try clear hx328_1); (try clear hx328_2); (try clear p328); (try clear q328)
      obtain ⟨kq, x32_4, rfl, HA, HJ4, HB⟩ := hcut
      cases kq with
      | zero => exact absurd HA.out (by simp [spec_l3Fault_in.j0])
      | succ kj4 =>
       have H := HA.out
       clear HA
       simp only [spec_l3Fault_in.j0] at H
       by_cases c8 : x32_4 = true
       · subst c8
         have H1 : (some 2) = some r := by rw [if_pos rfl] at H; exact H
         clear H; have H := H1; clear H1
         obtain rfl := sj H
         go_wp2
         go_ret
         exact ⟨pE, pB⟩
       · replace c8 := Bool.eq_false_iff.mpr c8
         subst c8
         have H1 : (spec_l3Fault_in.l0 kj4 l0 0) = some r := by rw [if_neg (show ¬ (false = true) by decide)] at H; exact H
         clear H; have H := H1; clear H1
         have H' := am H
         clear H
         go_wp2
         go_loopg [3] kj4 (fun kq v3 w' => ∃ (x3_2 : Int), v3 = .int .i64 x3_2 ∧ Aside0 (spec_l3Fault_in.l0 kq l0 x3_2 = some r) ∧ Aside0 (kq ≤ kj4) ∧ Aside0 (Below w.heap.size w w'))
         case atStart => exact ⟨(0), pF, H', ⟨Nat.le_refl _⟩, ⟨pB⟩⟩
         case round =>
          clear H'
          (try clear c2); (try clear c2b0); (try clear c2b1); (try clear c4); (try clear c8); (try clear hx328_0); (try clear hx328_1); (try clear hx328_2); (try clear p328); (try clear q328)
          obtain ⟨x3_2, rfl, HA, HK2, HB⟩ := hrel
          cases gk with
          | zero => exact absurd HA.out (by simp [spec_l3Fault_in.l0])
          | succ k2 =>
           have H := HA.out
           clear HA
           simp only [spec_l3Fault_in.l0] at H
           by_cases c9 : 0 < (l0.length : Int)
           · rw [if_pos c9] at H
             have c9b0 : decide (0 < (l0.length : Int)) = true := dt c9
             have c9b1 : decide (0 < l0.length) = true := dt (by omega)
             clear c9
             by_cases c10 : x3_2 < (((rd_T27 l0 0).f1).length : Int)
             · rw [if_pos c10] at H
               have c10b0 : decide (x3_2 < (((rd_T27 l0 0).f1).length : Int)) = true := dt c10
               clear c10
               obtain ⟨t333, A110, H⟩ := bO H
               replace H : (if t333 = 0 then (spec_l3Fault_in.l0 k2 l0 (wrap64 (x3_2 + 1))) else (some t333)) = some r := H
               have A11 := am A110; clear A110
               by_cases c12 : t333 = 0
               · rw [if_pos c12] at H
                 have c12b0 : (t333 == 0) = true := beq_iff_eq.mpr c12
                 have c12b1 : (t333 != 0) = false := bne_eq_false_iff_eq.mpr c12
                 clear c12
                 have H' := am H
                 clear H
                 have p331 : 0 ≤ (0 : Int) := (by omega)
                 have q331 : 0 < (l0.length : Int) := pD
                 obtain ⟨ad331, A331_1, c331_1, A331_2, c331_2, e331, hx331_0, hx331_1, hx331_2, hl331_1, hi331_1, hl331_2, hi331_2⟩ := at_T27 HR0.out 0 p331 q331
                 obtain rfl : ad328 = ad331 := (by injection e331)
                 have qi331 : (0 < l0.length) = True := eq_true (by omega)
                 (try rw [z0, zm, az] at hx331_0); (try rw [z0, zm, az] at hx331_1); (try rw [z0, zm, az] at hx331_2); replace hx331_0 := cb HB hx331_0; replace hx331_1 := cb HB hx331_1; replace hx331_2 := cb HB hx331_2; have HR331_1 := am hi331_1; have HC331_1 := am hl331_1; clear hi331_1 hl331_1; have HR331_2 := am hi331_2; have HC331_2 := am hl331_2; clear hi331_2 hl331_2; replace p331 := eq_true p331; replace q331 := eq_true q331
                 have p332 : 0 ≤ (0 : Int) := (by omega)
                 have q332 : 0 < (l0.length : Int) := pD
                 (try clear hx331_0); (try clear hHeld)
                 obtain ⟨ad332, A332_1, c332_1, A332_2, c332_2, e332, hx332_0, hx332_1, hx332_2, hl332_1, hi332_1, hl332_2, hi332_2⟩ := at_T27 HR0.out 0 p332 q332
                 obtain rfl : ad328 = ad332 := (by injection e332)
                 have qi332 : (0 < l0.length) = True := eq_true (by omega)
                 (try rw [z0, zm, az] at hx332_0); (try rw [z0, zm, az] at hx332_1); (try rw [z0, zm, az] at hx332_2); replace hx332_0 := cb HB hx332_0; replace hx332_1 := cb HB hx332_1; replace hx332_2 := cb HB hx332_2; have HR332_1 := am hi332_1; have HC332_1 := am hl332_1; clear hi332_1 hl332_1; have HR332_2 := am hi332_2; have HC332_2 := am hl332_2; clear hi332_2 hl332_2; replace p332 := eq_true p332; replace q332 := eq_true q332
                 have ea_ := sj (hx331_1.symm.trans hx332_1)
                 injection ea_ with ea_ en_ ec_
                 subst ea_; subst ec_; clear en_
                 have ea_ := sj (hx331_2.symm.trans hx332_2)
                 injection ea_ with ea_ en_ ec_
                 subst ea_; subst ec_; clear en_
                 go_wp2_with (first | ((with_reducible refine gC (f := 101) rfl ?_); refine goesL_ (some 47) rfl rfl Try.func101 (by kernel_rfl) rfl #[.slice A331_1 ((rd_T27 l0 0).f1).length c331_1, .int .i64 x3_2] rfl pA ?_; (with_reducible refine (spec_l3In.calls k2 _ _ ((rd_T27 l0 0).f1) x3_2 t333 _ ?side1 ?side2 A11.out).mono ?_); (case side1 => exact pC (Kd.C_below HR332_1.out HB.out)); (case side2 => exact HC332_1.out); rintro e w' ⟨rfl, ⟨nd, rfl⟩⟩; refine ⟨_, rfl, ?_⟩))
                 go_roundg k2
                 case measure => have := HJ4.out; have := HK2.out; omega
                 case rel => exact ⟨(wrap64 (x3_2 + 1)), pF, H', ⟨by have := HJ4.out; have := HK2.out; omega⟩, ⟨pB⟩⟩
               · rw [if_neg c12] at H
                 have c12b0 : (t333 == 0) = false := beq_eq_false_iff_ne.mpr c12
                 have c12b1 : (t333 != 0) = true := bne_iff_ne.mpr c12
                 obtain rfl := sj H
                 have p331 : 0 ≤ (0 : Int) := (by omega)
                 have q331 : 0 < (l0.length : Int) := pD
                 obtain ⟨ad331, A331_1, c331_1, A331_2, c331_2, e331, hx331_0, hx331_1, hx331_2, hl331_1, hi331_1, hl331_2, hi331_2⟩ := at_T27 HR0.out 0 p331 q331
                 obtain rfl : ad328 = ad331 := (by injection e331)
                 have qi331 : (0 < l0.length) = True := eq_true (by omega)
                 (try rw [z0, zm, az] at hx331_0); (try rw [z0, zm, az] at hx331_1); (try rw [z0, zm, az] at hx331_2); replace hx331_0 := cb HB hx331_0; replace hx331_1 := cb HB hx331_1; replace hx331_2 := cb HB hx331_2; have HR331_1 := am hi331_1; have HC331_1 := am hl331_1; clear hi331_1 hl331_1; have HR331_2 := am hi331_2; have HC331_2 := am hl331_2; clear hi331_2 hl331_2; replace p331 := eq_true p331; replace q331 := eq_true q331
                 have p332 : 0 ≤ (0 : Int) := (by omega)
                 have q332 : 0 < (l0.length : Int) := pD
                 (try clear hx331_0); (try clear hHeld)
                 obtain ⟨ad332, A332_1, c332_1, A332_2, c332_2, e332, hx332_0, hx332_1, hx332_2, hl332_1, hi332_1, hl332_2, hi332_2⟩ := at_T27 HR0.out 0 p332 q332
                 obtain rfl : ad328 = ad332 := (by injection e332)
                 have qi332 : (0 < l0.length) = True := eq_true (by omega)
                 (try rw [z0, zm, az] at hx332_0); (try rw [z0, zm, az] at hx332_1); (try rw [z0, zm, az] at hx332_2); replace hx332_0 := cb HB hx332_0; replace hx332_1 := cb HB hx332_1; replace hx332_2 := cb HB hx332_2; have HR332_1 := am hi332_1; have HC332_1 := am hl332_1; clear hi332_1 hl332_1; have HR332_2 := am hi332_2; have HC332_2 := am hl332_2; clear hi332_2 hl332_2; replace p332 := eq_true p332; replace q332 := eq_true q332
                 have ea_ := sj (hx331_1.symm.trans hx332_1)
                 injection ea_ with ea_ en_ ec_
                 subst ea_; subst ec_; clear en_
                 have ea_ := sj (hx331_2.symm.trans hx332_2)
                 injection ea_ with ea_ en_ ec_
                 subst ea_; subst ec_; clear en_
                 go_wp2_with (first | ((with_reducible refine gC (f := 101) rfl ?_); refine goesL_ (some 47) rfl rfl Try.func101 (by kernel_rfl) rfl #[.slice A331_1 ((rd_T27 l0 0).f1).length c331_1, .int .i64 x3_2] rfl pA ?_; (with_reducible refine (spec_l3In.calls k2 _ _ ((rd_T27 l0 0).f1) x3_2 t333 _ ?side1 ?side2 A11.out).mono ?_); (case side1 => exact pC (Kd.C_below HR332_1.out HB.out)); (case side2 => exact HC332_1.out); rintro e w' ⟨rfl, ⟨nd, rfl⟩⟩; refine ⟨_, rfl, ?_⟩))
                 go_ret
                 exact ⟨pE, pB⟩
             · rw [if_neg c10] at H
               have c10b0 : decide (x3_2 < (((rd_T27 l0 0).f1).length : Int)) = false := decide_eq_false c10
               clear c10
               obtain ⟨t335, A130, H⟩ := bO H
               replace H : (some t335) = some r := H
               have A13 := am A130; clear A130
               obtain rfl := sj H
               have p331 : 0 ≤ (0 : Int) := (by omega)
               have q331 : 0 < (l0.length : Int) := pD
               obtain ⟨ad331, A331_1, c331_1, A331_2, c331_2, e331, hx331_0, hx331_1, hx331_2, hl331_1, hi331_1, hl331_2, hi331_2⟩ := at_T27 HR0.out 0 p331 q331
               obtain rfl : ad328 = ad331 := (by injection e331)
               have qi331 : (0 < l0.length) = True := eq_true (by omega)
               (try rw [z0, zm, az] at hx331_0); (try rw [z0, zm, az] at hx331_1); (try rw [z0, zm, az] at hx331_2); replace hx331_0 := cb HB hx331_0; replace hx331_1 := cb HB hx331_1; replace hx331_2 := cb HB hx331_2; have HR331_1 := am hi331_1; have HC331_1 := am hl331_1; clear hi331_1 hl331_1; have HR331_2 := am hi331_2; have HC331_2 := am hl331_2; clear hi331_2 hl331_2; replace p331 := eq_true p331; replace q331 := eq_true q331
               have p334 : 0 ≤ (0 : Int) := (by omega)
               have q334 : 0 < (l0.length : Int) := pD
               (try clear hx331_0); (try clear hHeld)
               obtain ⟨ad334, A334_1, c334_1, A334_2, c334_2, e334, hx334_0, hx334_1, hx334_2, hl334_1, hi334_1, hl334_2, hi334_2⟩ := at_T27 HR0.out 0 p334 q334
               obtain rfl : ad328 = ad334 := (by injection e334)
               have qi334 : (0 < l0.length) = True := eq_true (by omega)
               (try rw [z0, zm, az] at hx334_0); (try rw [z0, zm, az] at hx334_1); (try rw [z0, zm, az] at hx334_2); replace hx334_0 := cb HB hx334_0; replace hx334_1 := cb HB hx334_1; replace hx334_2 := cb HB hx334_2; have HR334_1 := am hi334_1; have HC334_1 := am hl334_1; clear hi334_1 hl334_1; have HR334_2 := am hi334_2; have HC334_2 := am hl334_2; clear hi334_2 hl334_2; replace p334 := eq_true p334; replace q334 := eq_true q334
               have ea_ := sj (hx331_1.symm.trans hx334_1)
               injection ea_ with ea_ en_ ec_
               subst ea_; subst ec_; clear en_
               have ea_ := sj (hx331_2.symm.trans hx334_2)
               injection ea_ with ea_ en_ ec_
               subst ea_; subst ec_; clear en_
               go_wp2_with (first | ((with_reducible refine gC (f := 102) rfl ?_); refine goesL_ (some 55) rfl rfl Try.func102 (by kernel_rfl) rfl #[.slice A331_2 ((rd_T27 l0 0).f2).length c331_2] rfl pA ?_; (with_reducible refine (spec_l3Outs.calls k2 _ _ ((rd_T27 l0 0).f2) t335 _ ?side1 ?side2 A13.out).mono ?_); (case side1 => exact pC (Kd.C_below HR334_2.out HB.out)); (case side2 => exact HC334_2.out); rintro e w' ⟨rfl, ⟨nd, rfl⟩⟩; refine ⟨_, rfl, ?_⟩))
               go_ret
               exact ⟨pE, pB⟩
           · rw [if_neg c9] at H
             exact absurd H (by simp)
   · replace c4 := Bool.eq_false_iff.mpr c4
     subst c4
     have H1 : (some 3) = some r := by rw [if_neg (show ¬ (false = true) by decide)] at H; exact H
     clear H; have H := H1; clear H1
     obtain rfl := sj H
     have p328 : 0 ≤ (0 : Int) := (by omega)
     have q328 : 0 < (l0.length : Int) := pD
     obtain ⟨ad328, A328_1, c328_1, A328_2, c328_2, e328, hx328_0, hx328_1, hx328_2, hl328_1, hi328_1, hl328_2, hi328_2⟩ := at_T27 HR0.out 0 p328 q328
     cases e328
     have qi328 : (0 < l0.length) = True := eq_true (by omega)
     (try rw [z0, zm, az] at hx328_0); (try rw [z0, zm, az] at hx328_1); (try rw [z0, zm, az] at hx328_2); have HR328_1 := am hi328_1; have HC328_1 := am hl328_1; clear hi328_1 hl328_1; have HR328_2 := am hi328_2; have HC328_2 := am hl328_2; clear hi328_2 hl328_2; replace p328 := eq_true p328; replace q328 := eq_true q328
     go_enter Try.func53, Try.ntmps53
     go_wp2_with (first | ((with_reducible refine gC (f := 81) rfl ?_); refine goesL_ (some 9) rfl rfl Try.func81 (by kernel_rfl) rfl #[.int .i64 ((rd_T27 l0 0).f0), .int .i64 0, .int .i64 65535] rfl pA ?_; (with_reducible refine (spec_l1In.calls ((rd_T27 l0 0).f0) 0 65535 false _ A3.out).mono ?_); rintro e w' ⟨rfl, ⟨nd, rfl⟩⟩; refine ⟨_, rfl, ?_⟩))
     go_ret
     exact ⟨pE, pB⟩
 · rw [if_neg c2] at H
   exact absurd H (by simp)
def spec_l3Fault.f (k : Nat) (a0_0 : Int) (l0_1 : List (S34)) (l0_2 : List (S86)) : Option (Int) := spec_l3Fault_in.f k [(⟨a0_0, l0_1, l0_2⟩ : S27)]
theorem spec_l3Fault.mono : ∀ (a0_0 : Int) (l0_1 : List (S34)) (l0_2 : List (S86)) (k : Nat), LeO (spec_l3Fault.f k a0_0 l0_1 l0_2) (spec_l3Fault.f (k + 1) a0_0 l0_1 l0_2) := fun a0_0 l0_1 l0_2 k => spec_l3Fault_in.mono [(⟨a0_0, l0_1, l0_2⟩ : S27)] k
set_option maxHeartbeats 8000000 in
theorem spec_l3Fault.calls (k : Nat) (a0_0 : Int) (A0_1 : Option Addr) (c0_1 : Nat) (l0_1 : List (S34)) (A0_2 : Option Addr) (c0_2 : Nat) (l0_2 : List (S86)) (r : Int) (w : World) (hr0_1 : Kd.C k34 w A0_1 l0_1.length l0_1) (hc0_1 : l0_1.length ≤ c0_1) (hr0_2 : Kd.C k86 w A0_2 l0_2.length l0_2) (hc0_2 : l0_2.length ≤ c0_2) (h : spec_l3Fault.f k a0_0 l0_1 l0_2 = some r) {pp0 : Addr} (hpp0_0 : w.cell? pp0 = some (.int .i64 a0_0)) (hpp0_1 : w.cell? ⟨pp0.block, pp0.off + 1, none⟩ = some (.slice A0_1 l0_1.length c0_1)) (hpp0_2 : w.cell? ⟨pp0.block, pp0.off + 2, none⟩ = some (.slice A0_2 l0_2.length c0_2)) :
 Calls Try.prog 53 #[.pointer (some pp0)] w fun e w' => e = .returned (.int .i64 r) ∧ Below w.heap.size w w' := by
 have o0 : Kd.C k27 w (some pp0) 1 [(⟨a0_0, l0_1, l0_2⟩ : S27)] := by
  refine ⟨rfl, by decide, fun _ => ⟨pp0, rfl, fun j p hj => ?_⟩⟩
  cases j with
  | succ j => simp at hj
  | zero =>
   obtain rfl : (⟨a0_0, l0_1, l0_2⟩ : S27) = p := by simpa using hj
   refine ⟨_, rfl, k27_mk w _ hc0_1 hr0_1 hc0_2 hr0_2, fun i u hu => ?_⟩
   match i, hu with
   | 0, hu => obtain rfl := sj hu; exact hpp0_0
   | 1, hu => obtain rfl := sj hu; exact hpp0_1
   | 2, hu => obtain rfl := sj hu; exact hpp0_2
 exact spec_l3Fault_in.calls k (some pp0) 1 [(⟨a0_0, l0_1, l0_2⟩ : S27)] r w o0 (Nat.le_refl 1) h
def spec_l3Put.f (a0 : Int) : Option (List Int) := if a0 < 253 then (some (([(a0) % 256] : List Int))) else (some (([253, (Int.tmod a0 256) % 256, (wrap64 (Int.tdiv a0 256)) % 256] : List Int)))
theorem spec_l3Put.calls (a0 : Int) (r : List Int) (w : World) (h : spec_l3Put.f a0 = some r) :
 Calls Try.prog 80 #[.int .i64 a0] w fun e w' => ∃ v0_ : Value, e = .returned (v0_) ∧ Kd.R (Kd.int .u8) 5 w' w.heap.size (fun _ => True) v0_ r ∧ Below w.heap.size w w' := by
 have HB := am (Below.refl w.heap.size w)
 have H : (if a0 < 253 then (some (([(a0) % 256] : List Int))) else (some (([253, (Int.tmod a0 256) % 256, (wrap64 (Int.tdiv a0 256)) % 256] : List Int)))) = some r := h
 clear h
 by_cases c2 : a0 < 253
 · rw [if_pos c2] at H
   have c2b0 : decide (a0 < 253) = true := dt c2
   clear c2
   obtain ⟨y336, hy336⟩ : ∃ y_ : List Int, y_ = (([(a0) % 256] : List Int)) := ⟨_, rfl⟩
   replace H : (some y336) = some r := by first | (rw [hy336]; with_reducible exact H) | (have H2_ := (Option.bind_some _ _).symm.trans H; rw [hy336]; with_reducible exact H2_) | (have H2_ := (Option.bind_some _ _).symm.trans H; with_reducible exact H2_) | with_reducible exact H | (rw [hy336]; exact H) | exact H
   have Ny336 := am hy336; clear hy336
   obtain rfl := sj H
   go_enter Try.func80, Try.ntmps80
   go_wp2_with (first | ((with_reducible refine gate_dst (N := 7) rfl ?_); refine Kd.R_lit (Kd.int .u8) _ 5 ?hg (N := 7) ?hd (xs := ([(a0) % 256] : List Int)) (inner := [.int .u8 ((a0) % 256)]) (ok := fun _ => True) (okp := fun _ => True) ?hr ?hp (fun _ hk => hk) trivial (Below.refl _ _) (Nat.le_refl _) (by simp) ?_; (case hd => rfl); (case hg => rfl); (case hr => first | (go_simp; done) | (go_simp; rfl)); (case hp => exact (Reps.one (show Kd.M (Kd.int .u8) _ _ _ ((a0) % 256) [.int .u8 ((a0) % 256)] from rfl) (Reps.none _ _))); intro v337 w3 ho4 hb hg_ hnew_; clear hg_ hnew_; (first | rw [← Ny336.out] at ho4 | (simp only [Int.reduceToNat] at ho4; rw [← Ny336.out] at ho4)); have n_ := t2 (rL ho4 (bs_ pB)) (bz_ pB hb); clear HB; obtain ⟨HO338, HB⟩ := n_; clear hb ho4))
   go_ret
   exact ⟨_, pE, (pR HO338), pB⟩
 · rw [if_neg c2] at H
   have c2b0 : decide (a0 < 253) = false := decide_eq_false c2
   clear c2
   obtain ⟨y339, hy339⟩ : ∃ y_ : List Int, y_ = (([253, (Int.tmod a0 256) % 256, (wrap64 (Int.tdiv a0 256)) % 256] : List Int)) := ⟨_, rfl⟩
   replace H : (some y339) = some r := by first | (rw [hy339]; with_reducible exact H) | (have H2_ := (Option.bind_some _ _).symm.trans H; rw [hy339]; with_reducible exact H2_) | (have H2_ := (Option.bind_some _ _).symm.trans H; with_reducible exact H2_) | with_reducible exact H | (rw [hy339]; exact H) | exact H
   have Ny339 := am hy339; clear hy339
   obtain rfl := sj H
   go_enter Try.func80, Try.ntmps80
   go_wp2_with (first | ((with_reducible refine gate_dst (N := 14) rfl ?_); refine Kd.R_lit (Kd.int .u8) _ 5 ?hg (N := 14) ?hd (xs := ([253, (Int.tmod a0 256) % 256, (wrap64 (Int.tdiv a0 256)) % 256] : List Int)) (inner := [.int .u8 253, .int .u8 ((Int.tmod a0 256) % 256), .int .u8 ((wrap64 (Int.tdiv a0 256)) % 256)]) (ok := fun _ => True) (okp := fun _ => True) ?hr ?hp (fun _ hk => hk) trivial (Below.refl _ _) (Nat.le_refl _) (by simp) ?_; (case hd => rfl); (case hg => rfl); (case hr => first | (go_simp; done) | (go_simp; rfl)); (case hp => exact (Reps.one (show Kd.M (Kd.int .u8) _ _ _ 253 [.int .u8 253] from rfl) (Reps.one (show Kd.M (Kd.int .u8) _ _ _ ((Int.tmod a0 256) % 256) [.int .u8 ((Int.tmod a0 256) % 256)] from rfl) (Reps.one (show Kd.M (Kd.int .u8) _ _ _ ((wrap64 (Int.tdiv a0 256)) % 256) [.int .u8 ((wrap64 (Int.tdiv a0 256)) % 256)] from rfl) (Reps.none _ _))))); intro v340 w5 ho6 hb hg_ hnew_; clear hg_ hnew_; (first | rw [← Ny339.out] at ho6 | (simp only [Int.reduceToNat] at ho6; rw [← Ny339.out] at ho6)); have n_ := t2 (rL ho6 (bs_ pB)) (bz_ pB hb); clear HB; obtain ⟨HO341, HB⟩ := n_; clear hb ho6))
   go_ret
   exact ⟨_, pE, (pR HO341), pB⟩
def spec_l3Big.f (a0 : Int) : Option (List Int) := (spec_l3Put.f (Int.tmod a0 65536)).bind fun t342 => ((spec_l3Put.f (wrap64 (Int.tdiv a0 65536))).bind fun t345 => (if t342.length + t345.length < 140737488355328 then (some (t342 ++ t345)) else (none)))
theorem spec_l3Big.calls (a0 : Int) (r : List Int) (w : World) (h : spec_l3Big.f a0 = some r) :
 Calls Try.prog 125 #[.int .i64 a0] w fun e w' => ∃ v0_ : Value, e = .returned (v0_) ∧ Kd.R (Kd.int .u8) 5 w' w.heap.size (fun _ => True) v0_ r ∧ Below w.heap.size w w' := by
 have HB := am (Below.refl w.heap.size w)
 have H : ((spec_l3Put.f (Int.tmod a0 65536)).bind fun t342 => ((spec_l3Put.f (wrap64 (Int.tdiv a0 65536))).bind fun t345 => (if t342.length + t345.length < 140737488355328 then (some (t342 ++ t345)) else (none)))) = some r := h
 clear h
 obtain ⟨t342, A20, H⟩ := bO H
 replace H : ((spec_l3Put.f (wrap64 (Int.tdiv a0 65536))).bind fun t345 => (if t342.length + t345.length < 140737488355328 then (some (t342 ++ t345)) else (none))) = some r := H
 have A2 := am A20; clear A20
 obtain ⟨t345, A30, H⟩ := bO H
 replace H : (if t342.length + t345.length < 140737488355328 then (some (t342 ++ t345)) else (none)) = some r := H
 have A3 := am A30; clear A30
 by_cases c4 : t342.length + t345.length < 140737488355328
 · rw [if_pos c4] at H
   have LMc4 := am c4; clear c4
   obtain ⟨y348, hy348⟩ : ∃ y_ : List Int, y_ = (t342 ++ t345) := ⟨_, rfl⟩
   replace H : (some y348) = some r := by first | (rw [hy348]; with_reducible exact H) | (have H2_ := (Option.bind_some _ _).symm.trans H; rw [hy348]; with_reducible exact H2_) | (have H2_ := (Option.bind_some _ _).symm.trans H; with_reducible exact H2_) | with_reducible exact H | (rw [hy348]; exact H) | exact H
   have Ny348 := am hy348; clear hy348
   obtain rfl := sj H
   go_enter Try.func125, Try.ntmps125
   go_wp2_with (first | ((with_reducible refine gC (f := 80) rfl ?_); refine goesL_ (some 5) rfl rfl Try.func80 (by kernel_rfl) rfl #[.int .i64 (Int.tmod a0 65536)] rfl pA ?_; (with_reducible refine (spec_l3Put.calls (Int.tmod a0 65536) t342 _ A2.out).mono ?_); rintro e w5 ⟨v343, rfl, ho0, hb⟩; refine ⟨_, rfl, ?_⟩; have n_ := t2 (rL ho0 (bs_ pB)) (bz_ pB hb); clear HB; obtain ⟨HO344, HB⟩ := n_; (try clear hb); (try clear ho0)) | ((with_reducible refine gC (f := 80) rfl ?_); refine goesL_ (some 8) rfl rfl Try.func80 (by kernel_rfl) rfl #[.int .i64 (wrap64 (Int.tdiv a0 65536))] rfl pA ?_; (with_reducible refine (spec_l3Put.calls (wrap64 (Int.tdiv a0 65536)) t345 _ A3.out).mono ?_); rintro e w6 ⟨v346, rfl, ho0, hb⟩; refine ⟨_, rfl, ?_⟩; have n_ := t3 (rE (pR HO344) (rB ho0) hb) (rL (rW ho0 (Kd.R_lt (pR HO344))) (bs_ pB)) (bz_ pB hb); clear HO344 HB; obtain ⟨HO344, HO347, HB⟩ := n_; (try clear hb); (try clear ho0); obtain ⟨Ao8, co8, eo8⟩ := rS HO347.out; subst eo8) | ((with_reducible refine gB (b := .append) (xs := #[.tmp 5, .tmp 8]) rfl ?_); at_builtin; refine Kd.R_append_rows (Kd.int .u8) (w0 := w) w.heap.size rfl (.tmp 5) (.tmp 8) 22 5 (.int .u8 0) 1 rfl Try.underlying22 info5 rfl (by decide) (by omega) v343 t342 t345 _ _ _ (fun k_ => some k_ ≠ (.slice Ao8 t345.length co8 : Value).ownBlock) (fun _ => False) rfl rfl ?aO ?aR (fun _ _ h => h) (fun _ h => h.elim) ?aF ?aB ?aS ?aL ?_; (case aR => exact pC (rr HO347.out).2.2); (case aB => exact pB); (case aF => exact (fun k_ hk => Kd.fresh' (Kd.R_lt (pR HO347)) k_ hk)); (case aO => exact (pT (Kd.R_mono HO344.out (fun _ hk => hk.2)))); (case aS => exact (bs_ pB)); (case aL => have := LMc4.out; omega); intro v349 w7 ho hb hg hat; rw [← Ny348.out] at ho; have n_ := t3 (Kd.R_after (ok := (fun _ => True)) (pR HO347) hg hat) (hb) (ho); clear HO347 HB HO344; obtain ⟨HO347, HB, HO350⟩ := n_; clear ho hb hg hat))
   go_ret
   exact ⟨_, pE, (pT (Kd.R_mono HO350.out (fun _ hk => trivial))), pB⟩
 · rw [if_neg c4] at H
   exact absurd H (by simp)
end Go.Proofs.Ythjlbpgiaehjnaa.QFnExactPackTx
