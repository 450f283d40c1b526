-- written by this session's program (wip/tools/myprint.py)
import Derived.Test.YthjlbpgiaehjnaaQFnNamesx0
import Derived.Test.YthjlbpgiaehjnaaQFnNamesx1
-- squeezed
namespace Go.Proofs.Ythjlbpgiaehjnaa.QFnNames
open Go.RowKit Go.Proofs.YthjlbpgiaehjnaaW.PrintWords Go.Proofs.YthjlbpgiaehjnaaW.PrintLast Go.Proofs.YthjlbpgiaehjnaaW.PrintMore
attribute [local go_sem] max2_int min2_int max_two min_two max_three min_three max_four min_four   -- for this text's walks alone
set_option linter.unusedVariables false
set_option linter.unusedSimpArgs false
set_option maxHeartbeats 8000000
set_option maxRecDepth 100000
def spec_l1Amount.f (a0 : Int) : Option (Bool) := (spec_l1In.f a0 0 1000000).bind fun t453 => (some t453)
theorem spec_l1Amount.calls (a0 : Int) (r : Bool) (w : World) (h : spec_l1Amount.f a0 = some r) :
 Calls Try.prog 138 #[.int .i64 a0] w fun e w' => e = .returned (.bool r) ∧ Drawn0 w w' := by
 have H : ((spec_l1In.f a0 0 1000000).bind fun t453 => (some t453)) = some r := h
 clear h
 obtain ⟨t453, A20, H⟩ := bO H
 replace H : (some t453) = some r := H
 have A2 := am A20; clear A20
 obtain rfl := sj H
 go_enter Try.func138, Try.ntmps138
 go_wp2_with (first | ((with_reducible refine gC (f := 81) rfl ?_); refine goesL_ (some 4) rfl rfl Try.func81 (by kernel_rfl) rfl #[.int .i64 a0, .int .i64 0, .int .i64 1000000] rfl pA ?_; (with_reducible refine (spec_l1In.calls a0 0 1000000 t453 _ A2.out).mono ?_); rintro e w' ⟨rfl, ⟨nd, rfl⟩⟩; refine ⟨_, rfl, ?_⟩))
 go_ret
 exact ⟨by first | rfl | (simp; done) | (simp [*]; done), pW⟩
def spec_l2Op.f (a0 : Int) : Option (Bool) := (spec_l1In.f a0 1 9).bind fun t454 => (if t454 = true then (some true) else ((spec_l1In.f a0 100 1099).bind fun t455 => (some t455)))
theorem spec_l2Op.calls (a0 : Int) (r : Bool) (w : World) (h : spec_l2Op.f a0 = some r) :
 Calls Try.prog 156 #[.int .i64 a0] w fun e w' => e = .returned (.bool r) ∧ Drawn0 w w' := by
 have H : ((spec_l1In.f a0 1 9).bind fun t454 => (if t454 = true then (some true) else ((spec_l1In.f a0 100 1099).bind fun t455 => (some t455)))) = some r := h
 clear h
 obtain ⟨t454, A20, H⟩ := bO H
 replace H : (if t454 = true then (some true) else ((spec_l1In.f a0 100 1099).bind fun t455 => (some t455))) = some r := H
 have A2 := am A20; clear A20
 by_cases c3 : t454 = true
 · subst c3
   have H1 : (some true) = some r := by rw [if_pos rfl] at H; exact H
   clear H; have H := H1; clear H1
   obtain rfl := sj H
   go_enter Try.func156, Try.ntmps156
   go_wp2_with (first | ((with_reducible refine gC (f := 81) rfl ?_); refine goesL_ (some 4) rfl rfl Try.func81 (by kernel_rfl) rfl #[.int .i64 a0, .int .i64 1, .int .i64 9] rfl pA ?_; (with_reducible refine (spec_l1In.calls a0 1 9 true _ A2.out).mono ?_); rintro e w' ⟨rfl, ⟨nd, rfl⟩⟩; refine ⟨_, rfl, ?_⟩))
   go_ret
   exact ⟨by first | rfl | (simp; done) | (simp [*]; done), pW⟩
 · replace c3 := Bool.eq_false_iff.mpr c3
   subst c3
   have H1 : ((spec_l1In.f a0 100 1099).bind fun t455 => (some t455)) = some r := by rw [if_neg (show ¬ (false = true) by decide)] at H; exact H
   clear H; have H := H1; clear H1
   obtain ⟨t455, A40, H⟩ := bO H
   replace H : (some t455) = some r := H
   have A4 := am A40; clear A40
   obtain rfl := sj H
   go_enter Try.func156, Try.ntmps156
   go_wp2_with (first | ((with_reducible refine gC (f := 81) rfl ?_); refine goesL_ (some 4) rfl rfl Try.func81 (by kernel_rfl) rfl #[.int .i64 a0, .int .i64 1, .int .i64 9] rfl pA ?_; (with_reducible refine (spec_l1In.calls a0 1 9 false _ A2.out).mono ?_); rintro e w' ⟨rfl, ⟨nd, rfl⟩⟩; refine ⟨_, rfl, ?_⟩) | (go_at_call 81; (with_reducible refine (spec_l1In.calls a0 100 1099 t455 _ A4.out).mono ?_); rintro e w' ⟨rfl, ⟨nd, rfl⟩⟩))
   go_ret
   exact ⟨by first | rfl | (simp; done) | (simp [*]; done), pW⟩
def spec_l2Fault.l0 : Nat → List Int → Int → Option (Int)
 | 0, _, _ => none
 | k + 1, x0, x3 => if x3 < (x0.length : Int) then (if 0 ≤ x3 then ((spec_l2Op.f (rd x0 x3)).bind fun t457 => (if t457 = true then (spec_l2Fault.l0 k x0 (wrap64 (x3 + 1))) else (some 1))) else (none)) else (some 0)
def spec_l2Fault.f (k : Nat) (l0 : List Int) : Option (Int) := if (l0.length : Int) > 12 then (some 2) else (spec_l2Fault.l0 k l0 0)
theorem spec_l2Fault.mono_l : ∀ k, (∀ y0 y1, LeO (spec_l2Fault.l0 k y0 y1) (spec_l2Fault.l0 (k + 1) y0 y1))
 | 0 => fun _ _ r h => by simp [spec_l2Fault.l0] at h
 | k + 1 => by
  have ih0 := spec_l2Fault.mono_l k
  · intro y0 y1
    unfold spec_l2Fault.l0
    repeat' with_reducible first | exact ih0 _ _ | exact LeO.refl _ | exact LeO.none _ | refine LeO.ite ?_ ?_ | refine LeO.bind ?_ (fun _ => ?_)
theorem spec_l2Fault.mono : ∀ a0 k, LeO (spec_l2Fault.f k a0) (spec_l2Fault.f (k + 1) a0) := by
 intro a0 k
 have ih0 := spec_l2Fault.mono_l k
 unfold spec_l2Fault.f
 repeat' with_reducible first | exact ih0 _ _ | exact LeO.refl _ | exact LeO.none _ | refine LeO.ite ?_ ?_ | refine LeO.bind ?_ (fun _ => ?_)
theorem spec_l2Fault.calls (k : Nat) (A0 : Option Addr) (c0 : Nat) (l0 : List Int) (r : Int) (w : World) (hr0 : Kd.C (Kd.int .i64) w A0 l0.length l0) (hc0 : l0.length ≤ c0) (h : spec_l2Fault.f k l0 = some r) :
 Calls Try.prog 139 #[.slice A0 l0.length c0] w fun e w' => e = .returned (.int .i64 r) ∧ Drawn0 w w' := by
 have HR0 := am hr0; have HC0 := am hc0; clear hr0 hc0
 have H : (if (l0.length : Int) > 12 then (some 2) else (spec_l2Fault.l0 k l0 0)) = some r := h
 clear h
 by_cases c2 : (l0.length : Int) > 12
 · rw [if_pos c2] at H
   have c2b0 : decide (12 < (l0.length : Int)) = true := dt c2
   have c2b1 : decide (12 < l0.length) = true := dt (by omega)
   clear c2
   obtain rfl := sj H
   go_enter Try.func139, Try.ntmps139
   go_wp2
   go_ret
   exact ⟨by first | rfl | (simp; done) | (simp [*]; done), pW⟩
 · rw [if_neg c2] at H
   have c2b0 : decide (12 < (l0.length : Int)) = false := decide_eq_false c2
   have c2b1 : decide (12 < l0.length) = false := decide_eq_false (by omega)
   clear c2
   have H' := am H
   clear H
   go_enter Try.func139, Try.ntmps139
   go_wp2
   go_loopg [3] k (fun kq v3 w' => ∃ (x3_1 : Int), v3 = .int .i64 x3_1 ∧ Aside0 (spec_l2Fault.l0 kq l0 x3_1 = some r) ∧ Aside0 (kq ≤ k) ∧ Drawn0 w w')
   case atStart => exact ⟨(0), pF, H', ⟨Nat.le_refl _⟩, pW⟩
   case round =>
    clear H'
    (try clear c2); (try clear c2b0); (try clear c2b1)
    obtain ⟨x3_1, rfl, HA, HK1, ⟨m1, rfl⟩⟩ := hrel
    cases gk with
    | zero => exact absurd HA.out (by simp [spec_l2Fault.l0])
    | succ k1 =>
     have H := HA.out
     clear HA
     simp only [spec_l2Fault.l0] at H
     by_cases c3 : x3_1 < (l0.length : Int)
     · rw [if_pos c3] at H
       have c3b0 : decide (x3_1 < (l0.length : Int)) = true := dt c3
       clear c3
       by_cases c4 : 0 ≤ x3_1
       · rw [if_pos c4] at H
         have c4b0 : decide (0 ≤ x3_1) = true := dt c4
         clear c4
         obtain ⟨t457, A50, H⟩ := bO H
         replace H : (if t457 = true then (spec_l2Fault.l0 k1 l0 (wrap64 (x3_1 + 1))) else (some 1)) = some r := H
         have A5 := am A50; clear A50
         by_cases c6 : t457 = true
         · subst c6
           have H1 : (spec_l2Fault.l0 k1 l0 (wrap64 (x3_1 + 1))) = some r := by rw [if_pos rfl] at H; exact H
           clear H; have H := H1; clear H1
           have H' := am H
           clear H
           have p456 : 0 ≤ (x3_1 : Int) := pD
           have q456 : x3_1 < (l0.length : Int) := pD
           obtain ⟨ad456, e456, hx456_0⟩ := Kd.at_int HR0.out x3_1 p456 q456
           cases e456; replace p456 := eq_true p456; replace q456 := eq_true q456
           go_wp2_with (first | ((with_reducible refine gC (f := 156) rfl ?_); refine goesL_ (some 17) rfl rfl Try.func156 (by kernel_rfl) rfl #[.int .i64 (rd l0 x3_1)] rfl pA ?_; (with_reducible refine (spec_l2Op.calls (rd l0 x3_1) true _ A5.out).mono ?_); rintro e w' ⟨rfl, ⟨nd, rfl⟩⟩; refine ⟨_, rfl, ?_⟩))
           go_roundg k1
           case measure => have := HK1.out; omega
           case rel => exact ⟨(wrap64 (x3_1 + 1)), pF, H', ⟨by have := HK1.out; omega⟩, pW⟩
         · replace c6 := Bool.eq_false_iff.mpr c6
           subst c6
           have H1 : (some 1) = some r := by rw [if_neg (show ¬ (false = true) by decide)] at H; exact H
           clear H; have H := H1; clear H1
           obtain rfl := sj H
           have p456 : 0 ≤ (x3_1 : Int) := pD
           have q456 : x3_1 < (l0.length : Int) := pD
           obtain ⟨ad456, e456, hx456_0⟩ := Kd.at_int HR0.out x3_1 p456 q456
           cases e456; replace p456 := eq_true p456; replace q456 := eq_true q456
           go_wp2_with (first | ((with_reducible refine gC (f := 156) rfl ?_); refine goesL_ (some 17) rfl rfl Try.func156 (by kernel_rfl) rfl #[.int .i64 (rd l0 x3_1)] rfl pA ?_; (with_reducible refine (spec_l2Op.calls (rd l0 x3_1) false _ A5.out).mono ?_); rintro e w' ⟨rfl, ⟨nd, rfl⟩⟩; refine ⟨_, rfl, ?_⟩))
           go_ret
           exact ⟨by first | rfl | (simp; done) | (simp [*]; done), pW⟩
       · rw [if_neg c4] at H
         exact absurd H (by simp)
     · rw [if_neg c3] at H
       have c3b0 : decide (x3_1 < (l0.length : Int)) = false := decide_eq_false c3
       clear c3
       obtain rfl := sj H
       go_wp2
       go_ret
       exact ⟨by first | rfl | (simp; done) | (simp [*]; done), pW⟩
def spec_l3Outs.l0 : Nat → List (S86) → Int → Int → Option (Int)
 | 0, _, _, _ => none
 | k + 1, x0, x3, x4 => if x4 < (x0.length : Int) then (if 0 ≤ x4 then ((spec_l1Amount.f ((rd_T86 x0 x4).f0)).bind fun t460 => (if t460 = true then ((spec_l2Fault.f k ((rd_T86 x0 x4).f1)).bind fun t462 => (if t462 = 0 then (spec_l3Outs.l0 k x0 (wrap64 (x3 + ((rd_T86 x0 x4).f0))) (wrap64 (x4 + 1))) else (some t462))) else (some 3))) else (none)) else ((spec_l1Amount.f x3).bind fun t458 => (if t458 = true then (some 0) else (some 7)))
def spec_l3Outs.f (k : Nat) (l0 : List (S86)) : Option (Int) := spec_l3Outs.l0 k l0 0 0
theorem spec_l3Outs.mono_l : ∀ k, (∀ y0 y1 y2, LeO (spec_l3Outs.l0 k y0 y1 y2) (spec_l3Outs.l0 (k + 1) y0 y1 y2))
 | 0 => fun _ _ _ r h => by simp [spec_l3Outs.l0] at h
 | k + 1 => by
  have ih0 := spec_l3Outs.mono_l k
  · intro y0 y1 y2
    unfold spec_l3Outs.l0
    repeat' with_reducible first | exact ih0 _ _ _ | exact spec_l2Fault.mono _ _ | exact LeO.refl _ | exact LeO.none _ | refine LeO.ite ?_ ?_ | refine LeO.bind ?_ (fun _ => ?_)
theorem spec_l3Outs.mono : ∀ a0 k, LeO (spec_l3Outs.f k a0) (spec_l3Outs.f (k + 1) a0) := by
 intro a0 k
 have ih0 := spec_l3Outs.mono_l k
 unfold spec_l3Outs.f
 repeat' with_reducible first | exact ih0 _ _ _ | exact spec_l2Fault.mono _ _ | exact LeO.refl _ | exact LeO.none _ | refine LeO.ite ?_ ?_ | refine LeO.bind ?_ (fun _ => ?_)
theorem spec_l3Outs.calls (k : Nat) (A0 : Option Addr) (c0 : Nat) (l0 : List (S86)) (r : Int) (w : World) (hr0 : Kd.C k86 w A0 l0.length l0) (hc0 : l0.length ≤ c0) (h : spec_l3Outs.f k l0 = some r) :
 Calls Try.prog 102 #[.slice A0 l0.length c0] w fun e w' => e = .returned (.int .i64 r) ∧ Drawn0 w w' := by
 have HR0 := am hr0; have HC0 := am hc0; clear hr0 hc0
 have H : (spec_l3Outs.l0 k l0 0 0) = some r := h
 clear h
 have H' := am H
 clear H
 go_enter Try.func102, Try.ntmps102
 go_wp2
 go_loopg [3, 4] k (fun kq v3 v4 w' => ∃ (x3_1 : Int) (x4_1 : Int), v3 = .int .i64 x3_1 ∧ v4 = .int .i64 x4_1 ∧ Aside0 (spec_l3Outs.l0 kq l0 x3_1 x4_1 = some r) ∧ Aside0 (kq ≤ k) ∧ Drawn0 w w')
 case atStart => exact ⟨(0), (0), pF, pF, H', ⟨Nat.le_refl _⟩, pW⟩
 case round =>
  clear H'
  obtain ⟨x3_1, x4_1, rfl, rfl, HA, HK1, ⟨m1, rfl⟩⟩ := hrel
  cases gk with
  | zero => exact absurd HA.out (by simp [spec_l3Outs.l0])
  | succ k1 =>
   have H := HA.out
   clear HA
   simp only [spec_l3Outs.l0] at H
   by_cases c2 : x4_1 < (l0.length : Int)
   · rw [if_pos c2] at H
     have c2b0 : decide (x4_1 < (l0.length : Int)) = true := dt c2
     clear c2
     by_cases c3 : 0 ≤ x4_1
     · rw [if_pos c3] at H
       have c3b0 : decide (0 ≤ x4_1) = true := dt c3
       clear c3
       obtain ⟨t460, A40, H⟩ := bO H
       replace H : (if t460 = true then ((spec_l2Fault.f k1 ((rd_T86 l0 x4_1).f1)).bind fun t462 => (if t462 = 0 then (spec_l3Outs.l0 k1 l0 (wrap64 (x3_1 + ((rd_T86 l0 x4_1).f0))) (wrap64 (x4_1 + 1))) else (some t462))) else (some 3)) = some r := H
       have A4 := am A40; clear A40
       by_cases c5 : t460 = true
       · subst c5
         have H1 : ((spec_l2Fault.f k1 ((rd_T86 l0 x4_1).f1)).bind fun t462 => (if t462 = 0 then (spec_l3Outs.l0 k1 l0 (wrap64 (x3_1 + ((rd_T86 l0 x4_1).f0))) (wrap64 (x4_1 + 1))) else (some t462))) = some r := by rw [if_pos rfl] at H; exact H
         clear H; have H := H1; clear H1
         obtain ⟨t462, A60, H⟩ := bO H
         replace H : (if t462 = 0 then (spec_l3Outs.l0 k1 l0 (wrap64 (x3_1 + ((rd_T86 l0 x4_1).f0))) (wrap64 (x4_1 + 1))) else (some t462)) = some r := H
         have A6 := am A60; clear A60
         by_cases c7 : t462 = 0
         · rw [if_pos c7] at H
           have c7b0 : (t462 == 0) = true := beq_iff_eq.mpr c7
           have c7b1 : (t462 != 0) = false := bne_eq_false_iff_eq.mpr c7
           clear c7
           have H' := am H
           clear H
           have p459 : 0 ≤ (x4_1 : Int) := pD
           have q459 : x4_1 < (l0.length : Int) := pD
           obtain ⟨ad459, A459_1, c459_1, e459, hx459_0, hx459_1, hl459_1, hi459_1⟩ := at_T86 HR0.out x4_1 p459 q459
           cases e459; have HR459_1 := am hi459_1; have HC459_1 := am hl459_1; clear hi459_1 hl459_1; replace p459 := eq_true p459; replace q459 := eq_true q459
           go_wp2_with (first | ((with_reducible refine gC (f := 138) rfl ?_); refine goesL_ (some 17) rfl rfl Try.func138 (by kernel_rfl) rfl #[.int .i64 ((rd_T86 l0 x4_1).f0)] rfl pA ?_; (with_reducible refine (spec_l1Amount.calls ((rd_T86 l0 x4_1).f0) true _ A4.out).mono ?_); rintro e w' ⟨rfl, ⟨nd, rfl⟩⟩; refine ⟨_, rfl, ?_⟩; have p461 : 0 ≤ (x4_1 : Int) := pD; have q461 : x4_1 < (l0.length : Int) := pD; obtain ⟨ad461, A461_1, c461_1, e461, hx461_0, hx461_1, hl461_1, hi461_1⟩ := at_T86 HR0.out x4_1 p461 q461; obtain rfl : ad459 = ad461 := (by injection e461); have HR461_1 := am hi461_1; have HC461_1 := am hl461_1; clear hi461_1 hl461_1; replace p461 := eq_true p461; replace q461 := eq_true q461; have ea_ := sj (hx459_1.symm.trans hx461_1); injection ea_ with ea_ en_ ec_; subst ea_; subst ec_; clear en_) | ((with_reducible refine gC (f := 139) rfl ?_); refine goesL_ (some 24) rfl rfl Try.func139 (by kernel_rfl) rfl #[.slice A459_1 ((rd_T86 l0 x4_1).f1).length c459_1] rfl pA ?_; (with_reducible refine (spec_l2Fault.calls k1 _ _ ((rd_T86 l0 x4_1).f1) t462 _ ?side1 ?side2 A6.out).mono ?_); (case side1 => exact pC HR461_1.out); (case side2 => exact HC461_1.out); rintro e w' ⟨rfl, ⟨nd, rfl⟩⟩; refine ⟨_, rfl, ?_⟩; have p463 : 0 ≤ (x4_1 : Int) := pD; have q463 : x4_1 < (l0.length : Int) := pD; obtain ⟨ad463, A463_1, c463_1, e463, hx463_0, hx463_1, hl463_1, hi463_1⟩ := at_T86 HR0.out x4_1 p463 q463; obtain rfl : ad459 = ad463 := (by injection e463); have HR463_1 := am hi463_1; have HC463_1 := am hl463_1; clear hi463_1 hl463_1; replace p463 := eq_true p463; replace q463 := eq_true q463; have ea_ := sj (hx459_1.symm.trans hx463_1); injection ea_ with ea_ en_ ec_; subst ea_; subst ec_; clear en_))
           go_roundg k1
           case measure => have := HK1.out; omega
           case rel => exact ⟨(wrap64 (x3_1 + ((rd_T86 l0 x4_1).f0))), (wrap64 (x4_1 + 1)), pF, pF, H', ⟨by have := HK1.out; omega⟩, pW⟩
         · rw [if_neg c7] at H
           have c7b0 : (t462 == 0) = false := beq_eq_false_iff_ne.mpr c7
           have c7b1 : (t462 != 0) = true := bne_iff_ne.mpr c7
           obtain rfl := sj H
           have p459 : 0 ≤ (x4_1 : Int) := pD
           have q459 : x4_1 < (l0.length : Int) := pD
           obtain ⟨ad459, A459_1, c459_1, e459, hx459_0, hx459_1, hl459_1, hi459_1⟩ := at_T86 HR0.out x4_1 p459 q459
           cases e459; have HR459_1 := am hi459_1; have HC459_1 := am hl459_1; clear hi459_1 hl459_1; replace p459 := eq_true p459; replace q459 := eq_true q459
           go_wp2_with (first | ((with_reducible refine gC (f := 138) rfl ?_); refine goesL_ (some 17) rfl rfl Try.func138 (by kernel_rfl) rfl #[.int .i64 ((rd_T86 l0 x4_1).f0)] rfl pA ?_; (with_reducible refine (spec_l1Amount.calls ((rd_T86 l0 x4_1).f0) true _ A4.out).mono ?_); rintro e w' ⟨rfl, ⟨nd, rfl⟩⟩; refine ⟨_, rfl, ?_⟩; have p461 : 0 ≤ (x4_1 : Int) := pD; have q461 : x4_1 < (l0.length : Int) := pD; obtain ⟨ad461, A461_1, c461_1, e461, hx461_0, hx461_1, hl461_1, hi461_1⟩ := at_T86 HR0.out x4_1 p461 q461; obtain rfl : ad459 = ad461 := (by injection e461); have HR461_1 := am hi461_1; have HC461_1 := am hl461_1; clear hi461_1 hl461_1; replace p461 := eq_true p461; replace q461 := eq_true q461; have ea_ := sj (hx459_1.symm.trans hx461_1); injection ea_ with ea_ en_ ec_; subst ea_; subst ec_; clear en_) | ((with_reducible refine gC (f := 139) rfl ?_); refine goesL_ (some 24) rfl rfl Try.func139 (by kernel_rfl) rfl #[.slice A459_1 ((rd_T86 l0 x4_1).f1).length c459_1] rfl pA ?_; (with_reducible refine (spec_l2Fault.calls k1 _ _ ((rd_T86 l0 x4_1).f1) t462 _ ?side1 ?side2 A6.out).mono ?_); (case side1 => exact pC HR461_1.out); (case side2 => exact HC461_1.out); rintro e w' ⟨rfl, ⟨nd, rfl⟩⟩; refine ⟨_, rfl, ?_⟩))
           go_ret
           exact ⟨by first | rfl | (simp; done) | (simp [*]; done), pW⟩
       · replace c5 := Bool.eq_false_iff.mpr c5
         subst c5
         have H1 : (some 3) = some r := by rw [if_neg (show ¬ (false = true) by decide)] at H; exact H
         clear H; have H := H1; clear H1
         obtain rfl := sj H
         have p459 : 0 ≤ (x4_1 : Int) := pD
         have q459 : x4_1 < (l0.length : Int) := pD
         obtain ⟨ad459, A459_1, c459_1, e459, hx459_0, hx459_1, hl459_1, hi459_1⟩ := at_T86 HR0.out x4_1 p459 q459
         cases e459; have HR459_1 := am hi459_1; have HC459_1 := am hl459_1; clear hi459_1 hl459_1; replace p459 := eq_true p459; replace q459 := eq_true q459
         go_wp2_with (first | ((with_reducible refine gC (f := 138) rfl ?_); refine goesL_ (some 17) rfl rfl Try.func138 (by kernel_rfl) rfl #[.int .i64 ((rd_T86 l0 x4_1).f0)] rfl pA ?_; (with_reducible refine (spec_l1Amount.calls ((rd_T86 l0 x4_1).f0) false _ A4.out).mono ?_); rintro e w' ⟨rfl, ⟨nd, rfl⟩⟩; refine ⟨_, rfl, ?_⟩))
         go_ret
         exact ⟨by first | rfl | (simp; done) | (simp [*]; done), pW⟩
     · rw [if_neg c3] at H
       exact absurd H (by simp)
   · rw [if_neg c2] at H
     have c2b0 : decide (x4_1 < (l0.length : Int)) = false := decide_eq_false c2
     clear c2
     obtain ⟨t458, A80, H⟩ := bO H
     replace H : (if t458 = true then (some 0) else (some 7)) = some r := H
     have A8 := am A80; clear A80
     by_cases c9 : t458 = true
     · subst c9
       have H1 : (some 0) = some r := by rw [if_pos rfl] at H; exact H
       clear H; have H := H1; clear H1
       obtain rfl := sj H
       go_wp2_with (first | ((with_reducible refine gC (f := 138) rfl ?_); refine goesL_ (some 36) rfl rfl Try.func138 (by kernel_rfl) rfl #[.int .i64 x3_1] rfl pA ?_; (with_reducible refine (spec_l1Amount.calls x3_1 true _ A8.out).mono ?_); rintro e w' ⟨rfl, ⟨nd, rfl⟩⟩; refine ⟨_, rfl, ?_⟩))
       go_ret
       exact ⟨by first | rfl | (simp; done) | (simp [*]; done), pW⟩
     · replace c9 := Bool.eq_false_iff.mpr c9
       subst c9
       have H1 : (some 7) = some r := by rw [if_neg (show ¬ (false = true) by decide)] at H; exact H
       clear H; have H := H1; clear H1
       obtain rfl := sj H
       go_wp2_with (first | ((with_reducible refine gC (f := 138) rfl ?_); refine goesL_ (some 36) rfl rfl Try.func138 (by kernel_rfl) rfl #[.int .i64 x3_1] rfl pA ?_; (with_reducible refine (spec_l1Amount.calls x3_1 false _ A8.out).mono ?_); rintro e w' ⟨rfl, ⟨nd, rfl⟩⟩; refine ⟨_, rfl, ?_⟩))
       go_ret
       exact ⟨by first | rfl | (simp; done) | (simp [*]; done), pW⟩
end Go.Proofs.Ythjlbpgiaehjnaa.QFnNames
