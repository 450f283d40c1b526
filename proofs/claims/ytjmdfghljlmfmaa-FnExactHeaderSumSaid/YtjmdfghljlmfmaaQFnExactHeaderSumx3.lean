-- written by this session's program (wip/tools/myprint.py)
import Derived.Test.YtjmdfghljlmfmaaQFnExactHeaderSumx0
import Derived.Test.YtjmdfghljlmfmaaQFnExactHeaderSumx1
import Derived.Test.YtjmdfghljlmfmaaQFnExactHeaderSumx2
-- squeezed
namespace Go.Proofs.Ytjmdfghljlmfmaa.QFnExactHeaderSum
open Go.RowKit Go.Proofs.YtjmdfghljlmfmaaW.PrintWords Go.Proofs.YtjmdfghljlmfmaaW.PrintLast Go.Proofs.YtjmdfghljlmfmaaW.PrintMore
attribute [local go_sem] max2_int min2_int max_two min_two max_three min_three max_four min_four   -- for this text's walks alone
set_option linter.unusedVariables false
set_option linter.unusedSimpArgs false
set_option maxHeartbeats 8000000
set_option maxRecDepth 100000
def spec_l3Outs.l0 : Nat → List (S80) → Int → Int → Option (Int)
 | 0, _, _, _ => none
 | k + 1, x0, x3, x4 => if x4 < (x0.length : Int) then (if 0 ≤ x4 then ((spec_l1Amount.f ((rd_T80 x0 x4).f0)).bind fun t139 => (if t139 = true then ((spec_l2Fault.f k ((rd_T80 x0 x4).f1)).bind fun t141 => (if t141 = 0 then (spec_l3Outs.l0 k x0 (wrap64 (x3 + ((rd_T80 x0 x4).f0))) (wrap64 (x4 + 1))) else (some t141))) else (some 3))) else (none)) else ((spec_l1Amount.f x3).bind fun t137 => (if t137 = true then (some 0) else (some 7)))
def spec_l3Outs.f (k : Nat) (l0 : List (S80)) : Option (Int) := spec_l3Outs.l0 k l0 0 0
theorem spec_l3Outs.mono_l : ∀ k, (∀ y0 y1 y2, LeO (spec_l3Outs.l0 k y0 y1 y2) (spec_l3Outs.l0 (k + 1) y0 y1 y2))
 | 0 => fun _ _ _ r h => by simp [spec_l3Outs.l0] at h
 | k + 1 => by
  have ih0 := spec_l3Outs.mono_l k
  · intro y0 y1 y2
    unfold spec_l3Outs.l0
    repeat' with_reducible first | exact ih0 _ _ _ | exact spec_l2Fault.mono _ _ | exact LeO.refl _ | exact LeO.none _ | refine LeO.ite ?_ ?_ | refine LeO.bind ?_ (fun _ => ?_)
theorem spec_l3Outs.mono : ∀ a0 k, LeO (spec_l3Outs.f k a0) (spec_l3Outs.f (k + 1) a0) := by
 intro a0 k
 have ih0 := spec_l3Outs.mono_l k
 unfold spec_l3Outs.f
 repeat' with_reducible first | exact ih0 _ _ _ | exact spec_l2Fault.mono _ _ | exact LeO.refl _ | exact LeO.none _ | refine LeO.ite ?_ ?_ | refine LeO.bind ?_ (fun _ => ?_)
theorem spec_l3Outs.calls (k : Nat) (A0 : Option Addr) (c0 : Nat) (l0 : List (S80)) (r : Int) (w : World) (hr0 : Kd.C k80 w A0 l0.length l0) (hc0 : l0.length ≤ c0) (h : spec_l3Outs.f k l0 = some r) :
 Calls Try.prog 41 #[.slice A0 l0.length c0] w fun e w' => e = .returned (.int .i64 r) ∧ Drawn0 w w' := by
 have HR0 := am hr0; have HC0 := am hc0; clear hr0 hc0
 have H : (spec_l3Outs.l0 k l0 0 0) = some r := h
 clear h
 have H' := am H
 clear H
 go_enter Try.func41, Try.ntmps41
 go_wp2
 go_loopg [3, 4] k (fun kq v3 v4 w' => ∃ (x3_1 : Int) (x4_1 : Int), v3 = .int .i64 x3_1 ∧ v4 = .int .i64 x4_1 ∧ Aside0 (spec_l3Outs.l0 kq l0 x3_1 x4_1 = some r) ∧ Aside0 (kq ≤ k) ∧ Drawn0 w w')
 case atStart => exact ⟨(0), (0), pF, pF, H', ⟨Nat.le_refl _⟩, pW⟩
 case round =>
  clear H'
  obtain ⟨x3_1, x4_1, rfl, rfl, HA, HK1, ⟨m1, rfl⟩⟩ := hrel
  cases gk with
  | zero => exact absurd HA.out (by simp [spec_l3Outs.l0])
  | succ k1 =>
   have H := HA.out
   clear HA
   simp only [spec_l3Outs.l0] at H
   by_cases c2 : x4_1 < (l0.length : Int)
   · rw [if_pos c2] at H
     have c2b0 : decide (x4_1 < (l0.length : Int)) = true := dt c2
     clear c2
     by_cases c3 : 0 ≤ x4_1
     · rw [if_pos c3] at H
       have c3b0 : decide (0 ≤ x4_1) = true := dt c3
       clear c3
       obtain ⟨t139, A40, H⟩ := bO H
       replace H : (if t139 = true then ((spec_l2Fault.f k1 ((rd_T80 l0 x4_1).f1)).bind fun t141 => (if t141 = 0 then (spec_l3Outs.l0 k1 l0 (wrap64 (x3_1 + ((rd_T80 l0 x4_1).f0))) (wrap64 (x4_1 + 1))) else (some t141))) else (some 3)) = some r := H
       have A4 := am A40; clear A40
       by_cases c5 : t139 = true
       · subst c5
         have H1 : ((spec_l2Fault.f k1 ((rd_T80 l0 x4_1).f1)).bind fun t141 => (if t141 = 0 then (spec_l3Outs.l0 k1 l0 (wrap64 (x3_1 + ((rd_T80 l0 x4_1).f0))) (wrap64 (x4_1 + 1))) else (some t141))) = some r := by rw [if_pos rfl] at H; exact H
         clear H; have H := H1; clear H1
         obtain ⟨t141, A60, H⟩ := bO H
         replace H : (if t141 = 0 then (spec_l3Outs.l0 k1 l0 (wrap64 (x3_1 + ((rd_T80 l0 x4_1).f0))) (wrap64 (x4_1 + 1))) else (some t141)) = some r := H
         have A6 := am A60; clear A60
         by_cases c7 : t141 = 0
         · rw [if_pos c7] at H
           have c7b0 : (t141 == 0) = true := beq_iff_eq.mpr c7
           have c7b1 : (t141 != 0) = false := bne_eq_false_iff_eq.mpr c7
           clear c7
           have H' := am H
           clear H
           have p138 : 0 ≤ (x4_1 : Int) := pD
           have q138 : x4_1 < (l0.length : Int) := pD
           obtain ⟨ad138, A138_1, c138_1, e138, hx138_0, hx138_1, hl138_1, hi138_1⟩ := at_T80 HR0.out x4_1 p138 q138
           cases e138; have HR138_1 := am hi138_1; have HC138_1 := am hl138_1; clear hi138_1 hl138_1; replace p138 := eq_true p138; replace q138 := eq_true q138
           go_wp2_with (first | ((with_reducible refine gC (f := 62) rfl ?_); refine goesL_ (some 17) rfl rfl Try.func62 (by kernel_rfl) rfl #[.int .i64 ((rd_T80 l0 x4_1).f0)] rfl pA ?_; (with_reducible refine (spec_l1Amount.calls ((rd_T80 l0 x4_1).f0) true _ A4.out).mono ?_); rintro e w' ⟨rfl, ⟨nd, rfl⟩⟩; refine ⟨_, rfl, ?_⟩; have p140 : 0 ≤ (x4_1 : Int) := pD; have q140 : x4_1 < (l0.length : Int) := pD; obtain ⟨ad140, A140_1, c140_1, e140, hx140_0, hx140_1, hl140_1, hi140_1⟩ := at_T80 HR0.out x4_1 p140 q140; obtain rfl : ad138 = ad140 := (by injection e140); have HR140_1 := am hi140_1; have HC140_1 := am hl140_1; clear hi140_1 hl140_1; replace p140 := eq_true p140; replace q140 := eq_true q140; have ea_ := sj (hx138_1.symm.trans hx140_1); injection ea_ with ea_ en_ ec_; subst ea_; subst ec_; clear en_) | ((with_reducible refine gC (f := 63) rfl ?_); refine goesL_ (some 24) rfl rfl Try.func63 (by kernel_rfl) rfl #[.slice A138_1 ((rd_T80 l0 x4_1).f1).length c138_1] rfl pA ?_; (with_reducible refine (spec_l2Fault.calls k1 _ _ ((rd_T80 l0 x4_1).f1) t141 _ ?side1 ?side2 A6.out).mono ?_); (case side1 => exact pC HR140_1.out); (case side2 => exact HC140_1.out); rintro e w' ⟨rfl, ⟨nd, rfl⟩⟩; refine ⟨_, rfl, ?_⟩; have p142 : 0 ≤ (x4_1 : Int) := pD; have q142 : x4_1 < (l0.length : Int) := pD; obtain ⟨ad142, A142_1, c142_1, e142, hx142_0, hx142_1, hl142_1, hi142_1⟩ := at_T80 HR0.out x4_1 p142 q142; obtain rfl : ad138 = ad142 := (by injection e142); have HR142_1 := am hi142_1; have HC142_1 := am hl142_1; clear hi142_1 hl142_1; replace p142 := eq_true p142; replace q142 := eq_true q142; have ea_ := sj (hx138_1.symm.trans hx142_1); injection ea_ with ea_ en_ ec_; subst ea_; subst ec_; clear en_))
           go_roundg k1
           case measure => have := HK1.out; omega
           case rel => exact ⟨(wrap64 (x3_1 + ((rd_T80 l0 x4_1).f0))), (wrap64 (x4_1 + 1)), pF, pF, H', ⟨by have := HK1.out; omega⟩, pW⟩
         · rw [if_neg c7] at H
           have c7b0 : (t141 == 0) = false := beq_eq_false_iff_ne.mpr c7
           have c7b1 : (t141 != 0) = true := bne_iff_ne.mpr c7
           obtain rfl := sj H
           have p138 : 0 ≤ (x4_1 : Int) := pD
           have q138 : x4_1 < (l0.length : Int) := pD
           obtain ⟨ad138, A138_1, c138_1, e138, hx138_0, hx138_1, hl138_1, hi138_1⟩ := at_T80 HR0.out x4_1 p138 q138
           cases e138; have HR138_1 := am hi138_1; have HC138_1 := am hl138_1; clear hi138_1 hl138_1; replace p138 := eq_true p138; replace q138 := eq_true q138
           go_wp2_with (first | ((with_reducible refine gC (f := 62) rfl ?_); refine goesL_ (some 17) rfl rfl Try.func62 (by kernel_rfl) rfl #[.int .i64 ((rd_T80 l0 x4_1).f0)] rfl pA ?_; (with_reducible refine (spec_l1Amount.calls ((rd_T80 l0 x4_1).f0) true _ A4.out).mono ?_); rintro e w' ⟨rfl, ⟨nd, rfl⟩⟩; refine ⟨_, rfl, ?_⟩; have p140 : 0 ≤ (x4_1 : Int) := pD; have q140 : x4_1 < (l0.length : Int) := pD; obtain ⟨ad140, A140_1, c140_1, e140, hx140_0, hx140_1, hl140_1, hi140_1⟩ := at_T80 HR0.out x4_1 p140 q140; obtain rfl : ad138 = ad140 := (by injection e140); have HR140_1 := am hi140_1; have HC140_1 := am hl140_1; clear hi140_1 hl140_1; replace p140 := eq_true p140; replace q140 := eq_true q140; have ea_ := sj (hx138_1.symm.trans hx140_1); injection ea_ with ea_ en_ ec_; subst ea_; subst ec_; clear en_) | ((with_reducible refine gC (f := 63) rfl ?_); refine goesL_ (some 24) rfl rfl Try.func63 (by kernel_rfl) rfl #[.slice A138_1 ((rd_T80 l0 x4_1).f1).length c138_1] rfl pA ?_; (with_reducible refine (spec_l2Fault.calls k1 _ _ ((rd_T80 l0 x4_1).f1) t141 _ ?side1 ?side2 A6.out).mono ?_); (case side1 => exact pC HR140_1.out); (case side2 => exact HC140_1.out); rintro e w' ⟨rfl, ⟨nd, rfl⟩⟩; refine ⟨_, rfl, ?_⟩))
           go_ret
           exact ⟨by first | rfl | (simp; done) | (simp [*]; done), pW⟩
       · replace c5 := Bool.eq_false_iff.mpr c5
         subst c5
         have H1 : (some 3) = some r := by rw [if_neg (show ¬ (false = true) by decide)] at H; exact H
         clear H; have H := H1; clear H1
         obtain rfl := sj H
         have p138 : 0 ≤ (x4_1 : Int) := pD
         have q138 : x4_1 < (l0.length : Int) := pD
         obtain ⟨ad138, A138_1, c138_1, e138, hx138_0, hx138_1, hl138_1, hi138_1⟩ := at_T80 HR0.out x4_1 p138 q138
         cases e138; have HR138_1 := am hi138_1; have HC138_1 := am hl138_1; clear hi138_1 hl138_1; replace p138 := eq_true p138; replace q138 := eq_true q138
         go_wp2_with (first | ((with_reducible refine gC (f := 62) rfl ?_); refine goesL_ (some 17) rfl rfl Try.func62 (by kernel_rfl) rfl #[.int .i64 ((rd_T80 l0 x4_1).f0)] rfl pA ?_; (with_reducible refine (spec_l1Amount.calls ((rd_T80 l0 x4_1).f0) false _ A4.out).mono ?_); rintro e w' ⟨rfl, ⟨nd, rfl⟩⟩; refine ⟨_, rfl, ?_⟩))
         go_ret
         exact ⟨by first | rfl | (simp; done) | (simp [*]; done), pW⟩
     · rw [if_neg c3] at H
       exact absurd H (by simp)
   · rw [if_neg c2] at H
     have c2b0 : decide (x4_1 < (l0.length : Int)) = false := decide_eq_false c2
     clear c2
     obtain ⟨t137, A80, H⟩ := bO H
     replace H : (if t137 = true then (some 0) else (some 7)) = some r := H
     have A8 := am A80; clear A80
     by_cases c9 : t137 = true
     · subst c9
       have H1 : (some 0) = some r := by rw [if_pos rfl] at H; exact H
       clear H; have H := H1; clear H1
       obtain rfl := sj H
       go_wp2_with (first | ((with_reducible refine gC (f := 62) rfl ?_); refine goesL_ (some 36) rfl rfl Try.func62 (by kernel_rfl) rfl #[.int .i64 x3_1] rfl pA ?_; (with_reducible refine (spec_l1Amount.calls x3_1 true _ A8.out).mono ?_); rintro e w' ⟨rfl, ⟨nd, rfl⟩⟩; refine ⟨_, rfl, ?_⟩))
       go_ret
       exact ⟨by first | rfl | (simp; done) | (simp [*]; done), pW⟩
     · replace c9 := Bool.eq_false_iff.mpr c9
       subst c9
       have H1 : (some 7) = some r := by rw [if_neg (show ¬ (false = true) by decide)] at H; exact H
       clear H; have H := H1; clear H1
       obtain rfl := sj H
       go_wp2_with (first | ((with_reducible refine gC (f := 62) rfl ?_); refine goesL_ (some 36) rfl rfl Try.func62 (by kernel_rfl) rfl #[.int .i64 x3_1] rfl pA ?_; (with_reducible refine (spec_l1Amount.calls x3_1 false _ A8.out).mono ?_); rintro e w' ⟨rfl, ⟨nd, rfl⟩⟩; refine ⟨_, rfl, ?_⟩))
       go_ret
       exact ⟨by first | rfl | (simp; done) | (simp [*]; done), pW⟩
mutual
def spec_l3Fault_in.j0 : Nat → List (S54) → Bool → Option (Int)
 | 0, _, _ => none
 | k + 1, x0, x32 => if x32 = true then (some 2) else (spec_l3Fault_in.l0 k x0 0)
def spec_l3Fault_in.l0 : Nat → List (S54) → Int → Option (Int)
 | 0, _, _ => none
 | k + 1, x0, x3 => if 0 < (x0.length : Int) then (if x3 < (((rd_T54 x0 0).f1).length : Int) then ((spec_l3In.f k ((rd_T54 x0 0).f1) x3).bind fun t148 => (if t148 = 0 then (spec_l3Fault_in.l0 k x0 (wrap64 (x3 + 1))) else (some t148))) else ((spec_l3Outs.f k ((rd_T54 x0 0).f2)).bind fun t150 => (some t150))) else (none)
end
def spec_l3Fault_in.f (k : Nat) (l0 : List (S54)) : Option (Int) := if 0 < (l0.length : Int) then ((spec_l1In.f ((rd_T54 l0 0).f0) 0 65535).bind fun t144 => (if t144 = true then (if (((rd_T54 l0 0).f1).length : Int) > 4 then (spec_l3Fault_in.j0 k l0 true) else (if (((rd_T54 l0 0).f2).length : Int) < 1 then (spec_l3Fault_in.j0 k l0 true) else (spec_l3Fault_in.j0 k l0 (decide ((((rd_T54 l0 0).f2).length : Int) > 4))))) else (some 3))) else (none)
theorem spec_l3Fault_in.mono_l : ∀ k, (∀ y0 y1, LeO (spec_l3Fault_in.j0 k y0 y1) (spec_l3Fault_in.j0 (k + 1) y0 y1)) ∧ (∀ y0 y1, LeO (spec_l3Fault_in.l0 k y0 y1) (spec_l3Fault_in.l0 (k + 1) y0 y1))
 | 0 => ⟨fun _ _ r h => by simp [spec_l3Fault_in.j0] at h, fun _ _ r h => by simp [spec_l3Fault_in.l0] at h⟩
 | k + 1 => by
  obtain ⟨ih0, ih1⟩ := spec_l3Fault_in.mono_l k
  refine ⟨?_, ?_⟩
  · intro y0 y1
    unfold spec_l3Fault_in.j0
    repeat' with_reducible first | exact ih0 _ _ | exact ih1 _ _ | exact spec_l3In.mono _ _ _ | exact spec_l3Outs.mono _ _ | exact LeO.refl _ | exact LeO.none _ | refine LeO.ite ?_ ?_ | refine LeO.bind ?_ (fun _ => ?_)
  · intro y0 y1
    unfold spec_l3Fault_in.l0
    repeat' with_reducible first | exact ih0 _ _ | exact ih1 _ _ | exact spec_l3In.mono _ _ _ | exact spec_l3Outs.mono _ _ | exact LeO.refl _ | exact LeO.none _ | refine LeO.ite ?_ ?_ | refine LeO.bind ?_ (fun _ => ?_)
theorem spec_l3Fault_in.mono : ∀ a0 k, LeO (spec_l3Fault_in.f k a0) (spec_l3Fault_in.f (k + 1) a0) := by
 intro a0 k
 obtain ⟨ih0, ih1⟩ := spec_l3Fault_in.mono_l k
 unfold spec_l3Fault_in.f
 repeat' with_reducible first | exact ih0 _ _ | exact ih1 _ _ | exact spec_l3In.mono _ _ _ | exact spec_l3Outs.mono _ _ | exact LeO.refl _ | exact LeO.none _ | refine LeO.ite ?_ ?_ | refine LeO.bind ?_ (fun _ => ?_)
theorem spec_l3Fault_in.calls (k : Nat) (A0 : Option Addr) (c0 : Nat) (l0 : List (S54)) (r : Int) (w : World) (hr0 : Kd.C k54 w A0 l0.length l0) (hc0 : l0.length ≤ c0) (h : spec_l3Fault_in.f k l0 = some r) :
 Calls Try.prog 21 #[.pointer A0] w fun e w' => e = .returned (.int .i64 r) ∧ Below w.heap.size w w' := by
 have HR0 := am hr0; have HC0 := am hc0; clear hr0 hc0
 have HB := am (Below.refl w.heap.size w)
 have H : (if 0 < (l0.length : Int) then ((spec_l1In.f ((rd_T54 l0 0).f0) 0 65535).bind fun t144 => (if t144 = true then (if (((rd_T54 l0 0).f1).length : Int) > 4 then (spec_l3Fault_in.j0 k l0 true) else (if (((rd_T54 l0 0).f2).length : Int) < 1 then (spec_l3Fault_in.j0 k l0 true) else (spec_l3Fault_in.j0 k l0 (decide ((((rd_T54 l0 0).f2).length : Int) > 4))))) else (some 3))) else (none)) = some r := h
 clear h
 by_cases c2 : 0 < (l0.length : Int)
 · rw [if_pos c2] at H
   have c2b0 : decide (0 < (l0.length : Int)) = true := dt c2
   have c2b1 : decide (0 < l0.length) = true := dt (by omega)
   clear c2
   obtain ⟨t144, A30, H⟩ := bO H
   replace H : (if t144 = true then (if (((rd_T54 l0 0).f1).length : Int) > 4 then (spec_l3Fault_in.j0 k l0 true) else (if (((rd_T54 l0 0).f2).length : Int) < 1 then (spec_l3Fault_in.j0 k l0 true) else (spec_l3Fault_in.j0 k l0 (decide ((((rd_T54 l0 0).f2).length : Int) > 4))))) else (some 3)) = some r := H
   have A3 := am A30; clear A30
   by_cases c4 : t144 = true
   · subst c4
     have H1 : (if (((rd_T54 l0 0).f1).length : Int) > 4 then (spec_l3Fault_in.j0 k l0 true) else (if (((rd_T54 l0 0).f2).length : Int) < 1 then (spec_l3Fault_in.j0 k l0 true) else (spec_l3Fault_in.j0 k l0 (decide ((((rd_T54 l0 0).f2).length : Int) > 4))))) = some r := by rw [if_pos rfl] at H; exact H
     clear H; have H := H1; clear H1; have HC5 := am H; clear H
     have p143 : 0 ≤ (0 : Int) := (by omega)
     have q143 : 0 < (l0.length : Int) := pD
     obtain ⟨ad143, A143_1, c143_1, A143_2, c143_2, e143, hx143_0, hx143_1, hx143_2, hl143_1, hi143_1, hl143_2, hi143_2⟩ := at_T54 HR0.out 0 p143 q143
     cases e143
     have qi143 : (0 < l0.length) = True := eq_true (by omega)
     (try rw [z0, zm, az] at hx143_0); (try rw [z0, zm, az] at hx143_1); (try rw [z0, zm, az] at hx143_2); have HR143_1 := am hi143_1; have HC143_1 := am hl143_1; clear hi143_1 hl143_1; have HR143_2 := am hi143_2; have HC143_2 := am hl143_2; clear hi143_2 hl143_2; replace p143 := eq_true p143; replace q143 := eq_true q143
     go_enter Try.func21, Try.ntmps21
     go_upto_region 3 with (first | ((with_reducible refine gC (f := 19) rfl ?_); refine goesL_ (some 9) rfl rfl Try.func19 (by kernel_rfl) rfl #[.int .i64 ((rd_T54 l0 0).f0), .int .i64 0, .int .i64 65535] rfl pA ?_; (with_reducible refine (spec_l1In.calls ((rd_T54 l0 0).f0) 0 65535 true _ A3.out).mono ?_); rintro e w' ⟨rfl, ⟨nd, rfl⟩⟩; refine ⟨_, rfl, ?_⟩))
     (try simp only [Act.put, List.setIfInBounds_toArray, List.set_cons_zero, List.set_cons_succ])
     go_cut [32] (fun v32 wc => ∃ (kq : Nat) (x32_4 : Bool), v32 = .bool x32_4 ∧ Aside0 (spec_l3Fault_in.j0 kq l0 x32_4 = some r) ∧ Aside0 (kq ≤ k) ∧ Aside0 (Below w.heap.size w wc))
     case first =>
      have H := HC5.out
      clear HC5
      by_cases c6 : (((rd_T54 l0 0).f1).length : Int) > 4
      · rw [if_pos c6] at H
        have c6b0 : decide (4 < (((rd_T54 l0 0).f1).length : Int)) = true := dt c6
        have c6b1 : decide (4 < ((rd_T54 l0 0).f1).length) = true := dt (by omega)
        clear c6
        (first | rw [c6b0] | (simp only [i64_w, i32_w]; rw [c6b0]) | skip)
        have H' := am H
        clear H
        have p145 : 0 ≤ (0 : Int) := (by omega)
        have q145 : 0 < (l0.length : Int) := pD
        (try clear hx143_0); (try clear hx143_1); (try clear hx143_2); (try clear hHeld)
        obtain ⟨ad145, A145_1, c145_1, A145_2, c145_2, e145, hx145_0, hx145_1, hx145_2, hl145_1, hi145_1, hl145_2, hi145_2⟩ := at_T54 HR0.out 0 p145 q145
        obtain rfl : ad143 = ad145 := (by injection e145)
        have qi145 : (0 < l0.length) = True := eq_true (by omega)
        (try rw [z0, zm, az] at hx145_0); (try rw [z0, zm, az] at hx145_1); (try rw [z0, zm, az] at hx145_2); replace hx145_0 := cb HB hx145_0; replace hx145_1 := cb HB hx145_1; replace hx145_2 := cb HB hx145_2; have HR145_1 := am hi145_1; have HC145_1 := am hl145_1; clear hi145_1 hl145_1; have HR145_2 := am hi145_2; have HC145_2 := am hl145_2; clear hi145_2 hl145_2; replace p145 := eq_true p145; replace q145 := eq_true q145
        go_wp2
        go_meet
        case rel => exact ⟨_, (true), pF, H', ⟨by first | omega | exact Nat.le_refl _⟩, ⟨pB⟩⟩
      · rw [if_neg c6] at H
        have c6b0 : decide (4 < (((rd_T54 l0 0).f1).length : Int)) = false := decide_eq_false c6
        have c6b1 : decide (4 < ((rd_T54 l0 0).f1).length) = false := decide_eq_false (by omega)
        clear c6
        (first | rw [c6b0] | (simp only [i64_w, i32_w]; rw [c6b0]) | skip)
        by_cases c7 : (((rd_T54 l0 0).f2).length : Int) < 1
        · rw [if_pos c7] at H
          have c7b0 : decide ((((rd_T54 l0 0).f2).length : Int) < 1) = true := dt c7
          have c7b1 : decide (((rd_T54 l0 0).f2).length < 1) = true := dt (by omega)
          clear c7
          have H' := am H
          clear H
          have p145 : 0 ≤ (0 : Int) := (by omega)
          have q145 : 0 < (l0.length : Int) := pD
          obtain ⟨ad145, A145_1, c145_1, A145_2, c145_2, e145, hx145_0, hx145_1, hx145_2, hl145_1, hi145_1, hl145_2, hi145_2⟩ := at_T54 HR0.out 0 p145 q145
          obtain rfl : ad143 = ad145 := (by injection e145)
          have qi145 : (0 < l0.length) = True := eq_true (by omega)
          (try rw [z0, zm, az] at hx145_0); (try rw [z0, zm, az] at hx145_1); (try rw [z0, zm, az] at hx145_2); replace hx145_0 := cb HB hx145_0; replace hx145_1 := cb HB hx145_1; replace hx145_2 := cb HB hx145_2; have HR145_1 := am hi145_1; have HC145_1 := am hl145_1; clear hi145_1 hl145_1; have HR145_2 := am hi145_2; have HC145_2 := am hl145_2; clear hi145_2 hl145_2; replace p145 := eq_true p145; replace q145 := eq_true q145
          go_wp2
          go_meet
          case rel => exact ⟨_, (true), pF, H', ⟨by first | omega | exact Nat.le_refl _⟩, ⟨pB⟩⟩
        · rw [if_neg c7] at H
          have c7b0 : decide ((((rd_T54 l0 0).f2).length : Int) < 1) = false := decide_eq_false c7
          have c7b1 : decide (((rd_T54 l0 0).f2).length < 1) = false := decide_eq_false (by omega)
          clear c7
          have H' := am H
          clear H
          have p145 : 0 ≤ (0 : Int) := (by omega)
          have q145 : 0 < (l0.length : Int) := pD
          obtain ⟨ad145, A145_1, c145_1, A145_2, c145_2, e145, hx145_0, hx145_1, hx145_2, hl145_1, hi145_1, hl145_2, hi145_2⟩ := at_T54 HR0.out 0 p145 q145
          obtain rfl : ad143 = ad145 := (by injection e145)
          have qi145 : (0 < l0.length) = True := eq_true (by omega)
          (try rw [z0, zm, az] at hx145_0); (try rw [z0, zm, az] at hx145_1); (try rw [z0, zm, az] at hx145_2); replace hx145_0 := cb HB hx145_0; replace hx145_1 := cb HB hx145_1; replace hx145_2 := cb HB hx145_2; have HR145_1 := am hi145_1; have HC145_1 := am hl145_1; clear hi145_1 hl145_1; have HR145_2 := am hi145_2; have HC145_2 := am hl145_2; clear hi145_2 hl145_2; replace p145 := eq_true p145; replace q145 := eq_true q145
          go_wp2
          go_meet
          case rel => exact ⟨_, (decide ((((rd_T54 l0 0).f2).length : Int) > 4)), pF, H', ⟨by first | omega | exact Nat.le_refl _⟩, ⟨pB⟩⟩
     case rest =>
      clear HC5; (try clear c2); (try clear c2b0); (try clear c2b1); (try clear c4); (try clear hx143_0); (try clear hx143_1); (try clear hx143_2); (try clear p143); (try clear q143)
      obtain ⟨kq, x32_4, rfl, HA, HJ4, HB⟩ := hcut
      cases kq with
      | zero => exact absurd HA.out (by simp [spec_l3Fault_in.j0])
      | succ kj4 =>
       have H := HA.out
       clear HA
       simp only [spec_l3Fault_in.j0] at H
       by_cases c8 : x32_4 = true
       · subst c8
         have H1 : (some 2) = some r := by rw [if_pos rfl] at H; exact H
         clear H; have H := H1; clear H1
         obtain rfl := sj H
         go_wp2
         go_ret
         exact ⟨pE, pB⟩
       · replace c8 := Bool.eq_false_iff.mpr c8
         subst c8
         have H1 : (spec_l3Fault_in.l0 kj4 l0 0) = some r := by rw [if_neg (show ¬ (false = true) by decide)] at H; exact H
         clear H; have H := H1; clear H1
         have H' := am H
         clear H
         go_wp2
         go_loopg [3] kj4 (fun kq v3 w' => ∃ (x3_2 : Int), v3 = .int .i64 x3_2 ∧ Aside0 (spec_l3Fault_in.l0 kq l0 x3_2 = some r) ∧ Aside0 (kq ≤ kj4) ∧ Aside0 (Below w.heap.size w w'))
         case atStart => exact ⟨(0), pF, H', ⟨Nat.le_refl _⟩, ⟨pB⟩⟩
         case round =>
          clear H'
          (try clear c2); (try clear c2b0); (try clear c2b1); (try clear c4); (try clear c8); (try clear hx143_0); (try clear hx143_1); (try clear hx143_2); (try clear p143); (try clear q143)
          obtain ⟨x3_2, rfl, HA, HK2, HB⟩ := hrel
          cases gk with
          | zero => exact absurd HA.out (by simp [spec_l3Fault_in.l0])
          | succ k2 =>
           have H := HA.out
           clear HA
           simp only [spec_l3Fault_in.l0] at H
           by_cases c9 : 0 < (l0.length : Int)
           · rw [if_pos c9] at H
             have c9b0 : decide (0 < (l0.length : Int)) = true := dt c9
             have c9b1 : decide (0 < l0.length) = true := dt (by omega)
             clear c9
             by_cases c10 : x3_2 < (((rd_T54 l0 0).f1).length : Int)
             · rw [if_pos c10] at H
               have c10b0 : decide (x3_2 < (((rd_T54 l0 0).f1).length : Int)) = true := dt c10
               clear c10
               obtain ⟨t148, A110, H⟩ := bO H
               replace H : (if t148 = 0 then (spec_l3Fault_in.l0 k2 l0 (wrap64 (x3_2 + 1))) else (some t148)) = some r := H
               have A11 := am A110; clear A110
               by_cases c12 : t148 = 0
               · rw [if_pos c12] at H
                 have c12b0 : (t148 == 0) = true := beq_iff_eq.mpr c12
                 have c12b1 : (t148 != 0) = false := bne_eq_false_iff_eq.mpr c12
                 clear c12
                 have H' := am H
                 clear H
                 have p146 : 0 ≤ (0 : Int) := (by omega)
                 have q146 : 0 < (l0.length : Int) := pD
                 obtain ⟨ad146, A146_1, c146_1, A146_2, c146_2, e146, hx146_0, hx146_1, hx146_2, hl146_1, hi146_1, hl146_2, hi146_2⟩ := at_T54 HR0.out 0 p146 q146
                 obtain rfl : ad143 = ad146 := (by injection e146)
                 have qi146 : (0 < l0.length) = True := eq_true (by omega)
                 (try rw [z0, zm, az] at hx146_0); (try rw [z0, zm, az] at hx146_1); (try rw [z0, zm, az] at hx146_2); replace hx146_0 := cb HB hx146_0; replace hx146_1 := cb HB hx146_1; replace hx146_2 := cb HB hx146_2; have HR146_1 := am hi146_1; have HC146_1 := am hl146_1; clear hi146_1 hl146_1; have HR146_2 := am hi146_2; have HC146_2 := am hl146_2; clear hi146_2 hl146_2; replace p146 := eq_true p146; replace q146 := eq_true q146
                 have p147 : 0 ≤ (0 : Int) := (by omega)
                 have q147 : 0 < (l0.length : Int) := pD
                 (try clear hx146_0); (try clear hHeld)
                 obtain ⟨ad147, A147_1, c147_1, A147_2, c147_2, e147, hx147_0, hx147_1, hx147_2, hl147_1, hi147_1, hl147_2, hi147_2⟩ := at_T54 HR0.out 0 p147 q147
                 obtain rfl : ad143 = ad147 := (by injection e147)
                 have qi147 : (0 < l0.length) = True := eq_true (by omega)
                 (try rw [z0, zm, az] at hx147_0); (try rw [z0, zm, az] at hx147_1); (try rw [z0, zm, az] at hx147_2); replace hx147_0 := cb HB hx147_0; replace hx147_1 := cb HB hx147_1; replace hx147_2 := cb HB hx147_2; have HR147_1 := am hi147_1; have HC147_1 := am hl147_1; clear hi147_1 hl147_1; have HR147_2 := am hi147_2; have HC147_2 := am hl147_2; clear hi147_2 hl147_2; replace p147 := eq_true p147; replace q147 := eq_true q147
                 have ea_ := sj (hx146_1.symm.trans hx147_1)
                 injection ea_ with ea_ en_ ec_
                 subst ea_; subst ec_; clear en_
                 have ea_ := sj (hx146_2.symm.trans hx147_2)
                 injection ea_ with ea_ en_ ec_
                 subst ea_; subst ec_; clear en_
                 go_wp2_with (first | ((with_reducible refine gC (f := 40) rfl ?_); refine goesL_ (some 47) rfl rfl Try.func40 (by kernel_rfl) rfl #[.slice A146_1 ((rd_T54 l0 0).f1).length c146_1, .int .i64 x3_2] rfl pA ?_; (with_reducible refine (spec_l3In.calls k2 _ _ ((rd_T54 l0 0).f1) x3_2 t148 _ ?side1 ?side2 A11.out).mono ?_); (case side1 => exact pC (Kd.C_below HR147_1.out HB.out)); (case side2 => exact HC147_1.out); rintro e w' ⟨rfl, ⟨nd, rfl⟩⟩; refine ⟨_, rfl, ?_⟩))
                 go_roundg k2
                 case measure => have := HJ4.out; have := HK2.out; omega
                 case rel => exact ⟨(wrap64 (x3_2 + 1)), pF, H', ⟨by have := HJ4.out; have := HK2.out; omega⟩, ⟨pB⟩⟩
               · rw [if_neg c12] at H
                 have c12b0 : (t148 == 0) = false := beq_eq_false_iff_ne.mpr c12
                 have c12b1 : (t148 != 0) = true := bne_iff_ne.mpr c12
                 obtain rfl := sj H
                 have p146 : 0 ≤ (0 : Int) := (by omega)
                 have q146 : 0 < (l0.length : Int) := pD
                 obtain ⟨ad146, A146_1, c146_1, A146_2, c146_2, e146, hx146_0, hx146_1, hx146_2, hl146_1, hi146_1, hl146_2, hi146_2⟩ := at_T54 HR0.out 0 p146 q146
                 obtain rfl : ad143 = ad146 := (by injection e146)
                 have qi146 : (0 < l0.length) = True := eq_true (by omega)
                 (try rw [z0, zm, az] at hx146_0); (try rw [z0, zm, az] at hx146_1); (try rw [z0, zm, az] at hx146_2); replace hx146_0 := cb HB hx146_0; replace hx146_1 := cb HB hx146_1; replace hx146_2 := cb HB hx146_2; have HR146_1 := am hi146_1; have HC146_1 := am hl146_1; clear hi146_1 hl146_1; have HR146_2 := am hi146_2; have HC146_2 := am hl146_2; clear hi146_2 hl146_2; replace p146 := eq_true p146; replace q146 := eq_true q146
                 have p147 : 0 ≤ (0 : Int) := (by omega)
                 have q147 : 0 < (l0.length : Int) := pD
                 (try clear hx146_0); (try clear hHeld)
                 obtain ⟨ad147, A147_1, c147_1, A147_2, c147_2, e147, hx147_0, hx147_1, hx147_2, hl147_1, hi147_1, hl147_2, hi147_2⟩ := at_T54 HR0.out 0 p147 q147
                 obtain rfl : ad143 = ad147 := (by injection e147)
                 have qi147 : (0 < l0.length) = True := eq_true (by omega)
                 (try rw [z0, zm, az] at hx147_0); (try rw [z0, zm, az] at hx147_1); (try rw [z0, zm, az] at hx147_2); replace hx147_0 := cb HB hx147_0; replace hx147_1 := cb HB hx147_1; replace hx147_2 := cb HB hx147_2; have HR147_1 := am hi147_1; have HC147_1 := am hl147_1; clear hi147_1 hl147_1; have HR147_2 := am hi147_2; have HC147_2 := am hl147_2; clear hi147_2 hl147_2; replace p147 := eq_true p147; replace q147 := eq_true q147
                 have ea_ := sj (hx146_1.symm.trans hx147_1)
                 injection ea_ with ea_ en_ ec_
                 subst ea_; subst ec_; clear en_
                 have ea_ := sj (hx146_2.symm.trans hx147_2)
                 injection ea_ with ea_ en_ ec_
                 subst ea_; subst ec_; clear en_
                 go_wp2_with (first | ((with_reducible refine gC (f := 40) rfl ?_); refine goesL_ (some 47) rfl rfl Try.func40 (by kernel_rfl) rfl #[.slice A146_1 ((rd_T54 l0 0).f1).length c146_1, .int .i64 x3_2] rfl pA ?_; (with_reducible refine (spec_l3In.calls k2 _ _ ((rd_T54 l0 0).f1) x3_2 t148 _ ?side1 ?side2 A11.out).mono ?_); (case side1 => exact pC (Kd.C_below HR147_1.out HB.out)); (case side2 => exact HC147_1.out); rintro e w' ⟨rfl, ⟨nd, rfl⟩⟩; refine ⟨_, rfl, ?_⟩))
                 go_ret
                 exact ⟨pE, pB⟩
             · rw [if_neg c10] at H
               have c10b0 : decide (x3_2 < (((rd_T54 l0 0).f1).length : Int)) = false := decide_eq_false c10
               clear c10
               obtain ⟨t150, A130, H⟩ := bO H
               replace H : (some t150) = some r := H
               have A13 := am A130; clear A130
               obtain rfl := sj H
               have p146 : 0 ≤ (0 : Int) := (by omega)
               have q146 : 0 < (l0.length : Int) := pD
               obtain ⟨ad146, A146_1, c146_1, A146_2, c146_2, e146, hx146_0, hx146_1, hx146_2, hl146_1, hi146_1, hl146_2, hi146_2⟩ := at_T54 HR0.out 0 p146 q146
               obtain rfl : ad143 = ad146 := (by injection e146)
               have qi146 : (0 < l0.length) = True := eq_true (by omega)
               (try rw [z0, zm, az] at hx146_0); (try rw [z0, zm, az] at hx146_1); (try rw [z0, zm, az] at hx146_2); replace hx146_0 := cb HB hx146_0; replace hx146_1 := cb HB hx146_1; replace hx146_2 := cb HB hx146_2; have HR146_1 := am hi146_1; have HC146_1 := am hl146_1; clear hi146_1 hl146_1; have HR146_2 := am hi146_2; have HC146_2 := am hl146_2; clear hi146_2 hl146_2; replace p146 := eq_true p146; replace q146 := eq_true q146
               have p149 : 0 ≤ (0 : Int) := (by omega)
               have q149 : 0 < (l0.length : Int) := pD
               (try clear hx146_0); (try clear hHeld)
               obtain ⟨ad149, A149_1, c149_1, A149_2, c149_2, e149, hx149_0, hx149_1, hx149_2, hl149_1, hi149_1, hl149_2, hi149_2⟩ := at_T54 HR0.out 0 p149 q149
               obtain rfl : ad143 = ad149 := (by injection e149)
               have qi149 : (0 < l0.length) = True := eq_true (by omega)
               (try rw [z0, zm, az] at hx149_0); (try rw [z0, zm, az] at hx149_1); (try rw [z0, zm, az] at hx149_2); replace hx149_0 := cb HB hx149_0; replace hx149_1 := cb HB hx149_1; replace hx149_2 := cb HB hx149_2; have HR149_1 := am hi149_1; have HC149_1 := am hl149_1; clear hi149_1 hl149_1; have HR149_2 := am hi149_2; have HC149_2 := am hl149_2; clear hi149_2 hl149_2; replace p149 := eq_true p149; replace q149 := eq_true q149
               have ea_ := sj (hx146_1.symm.trans hx149_1)
               injection ea_ with ea_ en_ ec_
               subst ea_; subst ec_; clear en_
               have ea_ := sj (hx146_2.symm.trans hx149_2)
               injection ea_ with ea_ en_ ec_
               subst ea_; subst ec_; clear en_
               go_wp2_with (first | ((with_reducible refine gC (f := 41) rfl ?_); refine goesL_ (some 55) rfl rfl Try.func41 (by kernel_rfl) rfl #[.slice A146_2 ((rd_T54 l0 0).f2).length c146_2] rfl pA ?_; (with_reducible refine (spec_l3Outs.calls k2 _ _ ((rd_T54 l0 0).f2) t150 _ ?side1 ?side2 A13.out).mono ?_); (case side1 => exact pC (Kd.C_below HR149_2.out HB.out)); (case side2 => exact HC149_2.out); rintro e w' ⟨rfl, ⟨nd, rfl⟩⟩; refine ⟨_, rfl, ?_⟩))
               go_ret
               exact ⟨pE, pB⟩
           · rw [if_neg c9] at H
             exact absurd H (by simp)
   · replace c4 := Bool.eq_false_iff.mpr c4
     subst c4
     have H1 : (some 3) = some r := by rw [if_neg (show ¬ (false = true) by decide)] at H; exact H
     clear H; have H := H1; clear H1
     obtain rfl := sj H
     have p143 : 0 ≤ (0 : Int) := (by omega)
     have q143 : 0 < (l0.length : Int) := pD
     obtain ⟨ad143, A143_1, c143_1, A143_2, c143_2, e143, hx143_0, hx143_1, hx143_2, hl143_1, hi143_1, hl143_2, hi143_2⟩ := at_T54 HR0.out 0 p143 q143
     cases e143
     have qi143 : (0 < l0.length) = True := eq_true (by omega)
     (try rw [z0, zm, az] at hx143_0); (try rw [z0, zm, az] at hx143_1); (try rw [z0, zm, az] at hx143_2); have HR143_1 := am hi143_1; have HC143_1 := am hl143_1; clear hi143_1 hl143_1; have HR143_2 := am hi143_2; have HC143_2 := am hl143_2; clear hi143_2 hl143_2; replace p143 := eq_true p143; replace q143 := eq_true q143
     go_enter Try.func21, Try.ntmps21
     go_wp2_with (first | ((with_reducible refine gC (f := 19) rfl ?_); refine goesL_ (some 9) rfl rfl Try.func19 (by kernel_rfl) rfl #[.int .i64 ((rd_T54 l0 0).f0), .int .i64 0, .int .i64 65535] rfl pA ?_; (with_reducible refine (spec_l1In.calls ((rd_T54 l0 0).f0) 0 65535 false _ A3.out).mono ?_); rintro e w' ⟨rfl, ⟨nd, rfl⟩⟩; refine ⟨_, rfl, ?_⟩))
     go_ret
     exact ⟨pE, pB⟩
 · rw [if_neg c2] at H
   exact absurd H (by simp)
def spec_l3Fault.f (k : Nat) (a0_0 : Int) (l0_1 : List (S77)) (l0_2 : List (S80)) : Option (Int) := spec_l3Fault_in.f k [(⟨a0_0, l0_1, l0_2⟩ : S54)]
theorem spec_l3Fault.mono : ∀ (a0_0 : Int) (l0_1 : List (S77)) (l0_2 : List (S80)) (k : Nat), LeO (spec_l3Fault.f k a0_0 l0_1 l0_2) (spec_l3Fault.f (k + 1) a0_0 l0_1 l0_2) := fun a0_0 l0_1 l0_2 k => spec_l3Fault_in.mono [(⟨a0_0, l0_1, l0_2⟩ : S54)] k
set_option maxHeartbeats 8000000 in
theorem spec_l3Fault.calls (k : Nat) (a0_0 : Int) (A0_1 : Option Addr) (c0_1 : Nat) (l0_1 : List (S77)) (A0_2 : Option Addr) (c0_2 : Nat) (l0_2 : List (S80)) (r : Int) (w : World) (hr0_1 : Kd.C k77 w A0_1 l0_1.length l0_1) (hc0_1 : l0_1.length ≤ c0_1) (hr0_2 : Kd.C k80 w A0_2 l0_2.length l0_2) (hc0_2 : l0_2.length ≤ c0_2) (h : spec_l3Fault.f k a0_0 l0_1 l0_2 = some r) {pp0 : Addr} (hpp0_0 : w.cell? pp0 = some (.int .i64 a0_0)) (hpp0_1 : w.cell? ⟨pp0.block, pp0.off + 1, none⟩ = some (.slice A0_1 l0_1.length c0_1)) (hpp0_2 : w.cell? ⟨pp0.block, pp0.off + 2, none⟩ = some (.slice A0_2 l0_2.length c0_2)) :
 Calls Try.prog 21 #[.pointer (some pp0)] w fun e w' => e = .returned (.int .i64 r) ∧ Below w.heap.size w w' := by
 have o0 : Kd.C k54 w (some pp0) 1 [(⟨a0_0, l0_1, l0_2⟩ : S54)] := by
  refine ⟨rfl, by decide, fun _ => ⟨pp0, rfl, fun j p hj => ?_⟩⟩
  cases j with
  | succ j => simp at hj
  | zero =>
   obtain rfl : (⟨a0_0, l0_1, l0_2⟩ : S54) = p := by simpa using hj
   refine ⟨_, rfl, k54_mk w _ hc0_1 hr0_1 hc0_2 hr0_2, fun i u hu => ?_⟩
   match i, hu with
   | 0, hu => obtain rfl := sj hu; exact hpp0_0
   | 1, hu => obtain rfl := sj hu; exact hpp0_1
   | 2, hu => obtain rfl := sj hu; exact hpp0_2
 exact spec_l3Fault_in.calls k (some pp0) 1 [(⟨a0_0, l0_1, l0_2⟩ : S54)] r w o0 (Nat.le_refl 1) h
end Go.Proofs.Ytjmdfghljlmfmaa.QFnExactHeaderSum
