-- written by this session's program (wip/tools/myprint.py)
import Derived.Test.YthjlbpgiaehjnaaQFnExactBlockFaultx0
import Derived.Test.YthjlbpgiaehjnaaQFnExactBlockFaultx1
import Derived.Test.YthjlbpgiaehjnaaQFnExactBlockFaultx3
import Derived.Test.YthjlbpgiaehjnaaQFnExactBlockFaultx6
import Derived.Test.YthjlbpgiaehjnaaQFnExactBlockFaultx7
-- squeezed
namespace Go.Proofs.Ythjlbpgiaehjnaa.QFnExactBlockFault
open Go.RowKit Go.Proofs.YthjlbpgiaehjnaaW.PrintWords Go.Proofs.YthjlbpgiaehjnaaW.PrintLast Go.Proofs.YthjlbpgiaehjnaaW.PrintMore
attribute [local go_sem] max2_int min2_int max_two min_two max_three min_three max_four min_four   -- for this text's walks alone
set_option linter.unusedVariables false
set_option linter.unusedSimpArgs false
set_option maxHeartbeats 8000000
set_option maxRecDepth 100000
mutual
def spec_l6Fault_in.j0 : Nat → List (S72) → Bool → Option (Int)
 | 0, _, _ => none
 | k + 1, x0, x34 => if x34 = true then (some 3) else (if 0 < (x0.length : Int) then (if (((rd_T72 x0 0).f4).length : Int) < 1 then (spec_l6Fault_in.j1 k x0 true) else (spec_l6Fault_in.j1 k x0 (decide ((((rd_T72 x0 0).f4).length : Int) > 4)))) else (none))
def spec_l6Fault_in.j1 : Nat → List (S72) → Bool → Option (Int)
 | 0, _, _ => none
 | k + 1, x0, x48 => if x48 = true then (some 2) else (spec_l6Fault_in.l0 k x0 0)
def spec_l6Fault_in.l0 : Nat → List (S72) → Int → Option (Int)
 | 0, _, _ => none
 | k + 1, x0, x3 => if 0 < (x0.length : Int) then (if x3 < (((rd_T72 x0 0).f4).length : Int) then (if 0 ≤ x3 then ((spec_l3Fault.f k ((rd_T27 ((rd_T72 x0 0).f4) x3).f0) ((rd_T27 ((rd_T72 x0 0).f4) x3).f1) ((rd_T27 ((rd_T72 x0 0).f4) x3).f2)).bind fun t300 => (if t300 = 0 then (spec_l6Fault_in.l0 k x0 (wrap64 (x3 + 1))) else (some t300))) else (none)) else ((spec_l6Bases.f k ((rd_T72 x0 0).f0) ((rd_T72 x0 0).f1) ((rd_T72 x0 0).f2) ((rd_T72 x0 0).f3) ((rd_T72 x0 0).f4)).bind fun t302 => (if t302 = true then ((spec_l6Sums.f k ((rd_T72 x0 0).f0) ((rd_T72 x0 0).f1) ((rd_T72 x0 0).f2) ((rd_T72 x0 0).f3) ((rd_T72 x0 0).f4)).bind fun t304 => ((spec_l4Twin.f k t304).bind fun t307 => (if t307 = true then (some 6) else (some 0)))) else (some 1)))) else (none)
end
def spec_l6Fault_in.f (k : Nat) (l0 : List (S72)) : Option (Int) := if 0 < (l0.length : Int) then ((spec_l4Sum.f ((rd_T72 l0 0).f0)).bind fun t292 => (if t292 = true then ((spec_l1In.f ((rd_T72 l0 0).f1) 1 99999).bind fun t293 => (if t293 = true then ((spec_l1Bits.f ((rd_T72 l0 0).f2)).bind fun t294 => (if t294 = true then ((spec_l1In.f ((rd_T72 l0 0).f3) 0 65535).bind fun t295 => (spec_l6Fault_in.j0 k l0 (!t295))) else (spec_l6Fault_in.j0 k l0 true))) else (spec_l6Fault_in.j0 k l0 true))) else (spec_l6Fault_in.j0 k l0 true))) else (none)
theorem spec_l6Fault_in.mono_l : ∀ k, (∀ y0 y1, LeO (spec_l6Fault_in.j0 k y0 y1) (spec_l6Fault_in.j0 (k + 1) y0 y1)) ∧ (∀ y0 y1, LeO (spec_l6Fault_in.j1 k y0 y1) (spec_l6Fault_in.j1 (k + 1) y0 y1)) ∧ (∀ y0 y1, LeO (spec_l6Fault_in.l0 k y0 y1) (spec_l6Fault_in.l0 (k + 1) y0 y1))
 | 0 => ⟨fun _ _ r h => by simp [spec_l6Fault_in.j0] at h, fun _ _ r h => by simp [spec_l6Fault_in.j1] at h, fun _ _ r h => by simp [spec_l6Fault_in.l0] at h⟩
 | k + 1 => by
  obtain ⟨ih0, ih1, ih2⟩ := spec_l6Fault_in.mono_l k
  refine ⟨?_, ?_, ?_⟩
  · intro y0 y1
    unfold spec_l6Fault_in.j0
    repeat' with_reducible first | exact ih0 _ _ | exact ih1 _ _ | exact ih2 _ _ | exact spec_l3Fault.mono _ _ _ _ | exact spec_l4Twin.mono _ _ | exact spec_l6Bases.mono _ _ _ _ _ _ | exact spec_l6Sums.mono _ _ _ _ _ _ | exact LeO.refl _ | exact LeO.none _ | refine LeO.ite ?_ ?_ | refine LeO.bind ?_ (fun _ => ?_)
  · intro y0 y1
    unfold spec_l6Fault_in.j1
    repeat' with_reducible first | exact ih0 _ _ | exact ih1 _ _ | exact ih2 _ _ | exact spec_l3Fault.mono _ _ _ _ | exact spec_l4Twin.mono _ _ | exact spec_l6Bases.mono _ _ _ _ _ _ | exact spec_l6Sums.mono _ _ _ _ _ _ | exact LeO.refl _ | exact LeO.none _ | refine LeO.ite ?_ ?_ | refine LeO.bind ?_ (fun _ => ?_)
  · intro y0 y1
    unfold spec_l6Fault_in.l0
    repeat' with_reducible first | exact ih0 _ _ | exact ih1 _ _ | exact ih2 _ _ | exact spec_l3Fault.mono _ _ _ _ | exact spec_l4Twin.mono _ _ | exact spec_l6Bases.mono _ _ _ _ _ _ | exact spec_l6Sums.mono _ _ _ _ _ _ | exact LeO.refl _ | exact LeO.none _ | refine LeO.ite ?_ ?_ | refine LeO.bind ?_ (fun _ => ?_)
theorem spec_l6Fault_in.mono : ∀ a0 k, LeO (spec_l6Fault_in.f k a0) (spec_l6Fault_in.f (k + 1) a0) := by
 intro a0 k
 obtain ⟨ih0, ih1, ih2⟩ := spec_l6Fault_in.mono_l k
 unfold spec_l6Fault_in.f
 repeat' with_reducible first | exact ih0 _ _ | exact ih1 _ _ | exact ih2 _ _ | exact spec_l3Fault.mono _ _ _ _ | exact spec_l4Twin.mono _ _ | exact spec_l6Bases.mono _ _ _ _ _ _ | exact spec_l6Sums.mono _ _ _ _ _ _ | exact LeO.refl _ | exact LeO.none _ | refine LeO.ite ?_ ?_ | refine LeO.bind ?_ (fun _ => ?_)
theorem spec_l6Fault_in.calls (k : Nat) (A0 : Option Addr) (c0 : Nat) (l0 : List (S72)) (r : Int) (w : World) (hr0 : Kd.C k72 w A0 l0.length l0) (hc0 : l0.length ≤ c0) (h : spec_l6Fault_in.f k l0 = some r) :
 Calls Try.prog 89 #[.pointer A0] w fun e w' => e = .returned (.int .i64 r) ∧ Below w.heap.size w w' := by
 have hu27 := Try.underlying27
 have hu72 := Try.underlying72
 have HR0 := Aside0.mk hr0; have HC0 := Aside0.mk hc0; clear hr0 hc0
 have HB := Aside0.mk (Below.refl w.heap.size w)
 have H : (if 0 < (l0.length : Int) then ((spec_l4Sum.f ((rd_T72 l0 0).f0)).bind fun t292 => (if t292 = true then ((spec_l1In.f ((rd_T72 l0 0).f1) 1 99999).bind fun t293 => (if t293 = true then ((spec_l1Bits.f ((rd_T72 l0 0).f2)).bind fun t294 => (if t294 = true then ((spec_l1In.f ((rd_T72 l0 0).f3) 0 65535).bind fun t295 => (spec_l6Fault_in.j0 k l0 (!t295))) else (spec_l6Fault_in.j0 k l0 true))) else (spec_l6Fault_in.j0 k l0 true))) else (spec_l6Fault_in.j0 k l0 true))) else (none)) = some r := h
 clear h; have HC2 := Aside0.mk H; clear H
 go_enter Try.func89, Try.ntmps89
 go_upto_region 1 with (fail)
 go_cut [34] (fun v34 wc => ∃ (kq : Nat) (x34_1 : Bool), v34 = .bool x34_1 ∧ Aside0 (spec_l6Fault_in.j0 kq l0 x34_1 = some r) ∧ Aside0 (kq ≤ k) ∧ Aside0 (Below w.heap.size w wc))
 case first =>
  have H := HC2.out
  clear HC2
  by_cases c3 : 0 < (l0.length : Int)
  · rw [if_pos c3] at H
    have c3b0 : decide (0 < (l0.length : Int)) = true := decide_eq_true c3
    have c3b1 : decide (0 < l0.length) = true := decide_eq_true (by omega)
    clear c3
    (first | rw [c3b0] | (simp only [i64_w, i32_w]; rw [c3b0]) | skip)
    obtain ⟨t292, A40, H⟩ := bO H
    replace H : (if t292 = true then ((spec_l1In.f ((rd_T72 l0 0).f1) 1 99999).bind fun t293 => (if t293 = true then ((spec_l1Bits.f ((rd_T72 l0 0).f2)).bind fun t294 => (if t294 = true then ((spec_l1In.f ((rd_T72 l0 0).f3) 0 65535).bind fun t295 => (spec_l6Fault_in.j0 k l0 (!t295))) else (spec_l6Fault_in.j0 k l0 true))) else (spec_l6Fault_in.j0 k l0 true))) else (spec_l6Fault_in.j0 k l0 true)) = some r := H
    have A4 := Aside0.mk A40; clear A40
    by_cases c5 : t292 = true
    · subst c5
      have H1 : ((spec_l1In.f ((rd_T72 l0 0).f1) 1 99999).bind fun t293 => (if t293 = true then ((spec_l1Bits.f ((rd_T72 l0 0).f2)).bind fun t294 => (if t294 = true then ((spec_l1In.f ((rd_T72 l0 0).f3) 0 65535).bind fun t295 => (spec_l6Fault_in.j0 k l0 (!t295))) else (spec_l6Fault_in.j0 k l0 true))) else (spec_l6Fault_in.j0 k l0 true))) = some r := by rw [if_pos rfl] at H; exact H
      clear H; have H := H1; clear H1
      obtain ⟨t293, A60, H⟩ := bO H
      replace H : (if t293 = true then ((spec_l1Bits.f ((rd_T72 l0 0).f2)).bind fun t294 => (if t294 = true then ((spec_l1In.f ((rd_T72 l0 0).f3) 0 65535).bind fun t295 => (spec_l6Fault_in.j0 k l0 (!t295))) else (spec_l6Fault_in.j0 k l0 true))) else (spec_l6Fault_in.j0 k l0 true)) = some r := H
      have A6 := Aside0.mk A60; clear A60
      by_cases c7 : t293 = true
      · subst c7
        have H1 : ((spec_l1Bits.f ((rd_T72 l0 0).f2)).bind fun t294 => (if t294 = true then ((spec_l1In.f ((rd_T72 l0 0).f3) 0 65535).bind fun t295 => (spec_l6Fault_in.j0 k l0 (!t295))) else (spec_l6Fault_in.j0 k l0 true))) = some r := by rw [if_pos rfl] at H; exact H
        clear H; have H := H1; clear H1
        obtain ⟨t294, A80, H⟩ := bO H
        replace H : (if t294 = true then ((spec_l1In.f ((rd_T72 l0 0).f3) 0 65535).bind fun t295 => (spec_l6Fault_in.j0 k l0 (!t295))) else (spec_l6Fault_in.j0 k l0 true)) = some r := H
        have A8 := Aside0.mk A80; clear A80
        by_cases c9 : t294 = true
        · subst c9
          have H1 : ((spec_l1In.f ((rd_T72 l0 0).f3) 0 65535).bind fun t295 => (spec_l6Fault_in.j0 k l0 (!t295))) = some r := by rw [if_pos rfl] at H; exact H
          clear H; have H := H1; clear H1
          obtain ⟨t295, A100, H⟩ := bO H
          replace H : (spec_l6Fault_in.j0 k l0 (!t295)) = some r := H
          have A10 := Aside0.mk A100; clear A100
          have H' := Aside0.mk H
          clear H
          have p291 : 0 ≤ (0 : Int) := (by omega)
          have q291 : 0 < (l0.length : Int) := pD
          obtain ⟨ad291, A291_4, c291_4, e291, hx291_0, hx291_1, hx291_2, hx291_3, hx291_4, hl291_4, hi291_4⟩ := at_T72 HR0.out 0 p291 q291
          cases e291
          have qi291 : (0 < l0.length) = True := eq_true (by omega)
          (try rw [z0] at hx291_0); (try rw [Nat.zero_mul] at hx291_0); (try rw [Addr.add_zero'] at hx291_0); (try rw [z0] at hx291_1); (try rw [Nat.zero_mul] at hx291_1); (try rw [Addr.add_zero'] at hx291_1); (try rw [z0] at hx291_2); (try rw [Nat.zero_mul] at hx291_2); (try rw [Addr.add_zero'] at hx291_2); (try rw [z0] at hx291_3); (try rw [Nat.zero_mul] at hx291_3); (try rw [Addr.add_zero'] at hx291_3); (try rw [z0] at hx291_4); (try rw [Nat.zero_mul] at hx291_4); (try rw [Addr.add_zero'] at hx291_4); replace hx291_0 := cb HB hx291_0; replace hx291_1 := cb HB hx291_1; replace hx291_2 := cb HB hx291_2; replace hx291_3 := cb HB hx291_3; replace hx291_4 := cb HB hx291_4; have HR291_4 := Aside0.mk hi291_4; have HC291_4 := Aside0.mk hl291_4; clear hi291_4 hl291_4; replace p291 := eq_true p291; replace q291 := eq_true q291
          go_wp2_with (first | ((with_reducible refine gate_callee (f := 130) rfl ?_); refine goesL_ (some 9) rfl rfl Try.func130 (by kernel_rfl) rfl #[.int .i64 ((rd_T72 l0 0).f0)] rfl pA ?_; (with_reducible refine (spec_l4Sum.calls ((rd_T72 l0 0).f0) true _ A4.out).mono ?_); rintro e w' ⟨rfl, ⟨nd, rfl⟩⟩; refine ⟨_, rfl, ?_⟩) | (go_at_call 81; (with_reducible refine (spec_l1In.calls ((rd_T72 l0 0).f1) 1 99999 true _ A6.out).mono ?_); rintro e w' ⟨rfl, ⟨nd, rfl⟩⟩) | (go_at_call 131; (with_reducible refine (spec_l1Bits.calls ((rd_T72 l0 0).f2) true _ A8.out).mono ?_); rintro e w' ⟨rfl, ⟨nd, rfl⟩⟩) | (go_at_call 81; (with_reducible refine (spec_l1In.calls ((rd_T72 l0 0).f3) 0 65535 t295 _ A10.out).mono ?_); rintro e w' ⟨rfl, ⟨nd, rfl⟩⟩))
          go_meet
          case rel => exact ⟨_, (!t295), pF, H', ⟨by first | omega | exact Nat.le_refl _⟩, ⟨pB⟩⟩
        · replace c9 := Bool.eq_false_iff.mpr c9
          subst c9
          have H1 : (spec_l6Fault_in.j0 k l0 true) = some r := by rw [if_neg (show ¬ (false = true) by decide)] at H; exact H
          clear H; have H := H1; clear H1
          have H' := Aside0.mk H
          clear H
          have p291 : 0 ≤ (0 : Int) := (by omega)
          have q291 : 0 < (l0.length : Int) := pD
          obtain ⟨ad291, A291_4, c291_4, e291, hx291_0, hx291_1, hx291_2, hx291_3, hx291_4, hl291_4, hi291_4⟩ := at_T72 HR0.out 0 p291 q291
          cases e291
          have qi291 : (0 < l0.length) = True := eq_true (by omega)
          (try rw [z0] at hx291_0); (try rw [Nat.zero_mul] at hx291_0); (try rw [Addr.add_zero'] at hx291_0); (try rw [z0] at hx291_1); (try rw [Nat.zero_mul] at hx291_1); (try rw [Addr.add_zero'] at hx291_1); (try rw [z0] at hx291_2); (try rw [Nat.zero_mul] at hx291_2); (try rw [Addr.add_zero'] at hx291_2); (try rw [z0] at hx291_3); (try rw [Nat.zero_mul] at hx291_3); (try rw [Addr.add_zero'] at hx291_3); (try rw [z0] at hx291_4); (try rw [Nat.zero_mul] at hx291_4); (try rw [Addr.add_zero'] at hx291_4); replace hx291_0 := cb HB hx291_0; replace hx291_1 := cb HB hx291_1; replace hx291_2 := cb HB hx291_2; replace hx291_3 := cb HB hx291_3; replace hx291_4 := cb HB hx291_4; have HR291_4 := Aside0.mk hi291_4; have HC291_4 := Aside0.mk hl291_4; clear hi291_4 hl291_4; replace p291 := eq_true p291; replace q291 := eq_true q291
          go_wp2_with (first | ((with_reducible refine gate_callee (f := 130) rfl ?_); refine goesL_ (some 9) rfl rfl Try.func130 (by kernel_rfl) rfl #[.int .i64 ((rd_T72 l0 0).f0)] rfl pA ?_; (with_reducible refine (spec_l4Sum.calls ((rd_T72 l0 0).f0) true _ A4.out).mono ?_); rintro e w' ⟨rfl, ⟨nd, rfl⟩⟩; refine ⟨_, rfl, ?_⟩) | (go_at_call 81; (with_reducible refine (spec_l1In.calls ((rd_T72 l0 0).f1) 1 99999 true _ A6.out).mono ?_); rintro e w' ⟨rfl, ⟨nd, rfl⟩⟩) | (go_at_call 131; (with_reducible refine (spec_l1Bits.calls ((rd_T72 l0 0).f2) false _ A8.out).mono ?_); rintro e w' ⟨rfl, ⟨nd, rfl⟩⟩))
          go_meet
          case rel => exact ⟨_, (true), pF, H', ⟨by first | omega | exact Nat.le_refl _⟩, ⟨pB⟩⟩
      · replace c7 := Bool.eq_false_iff.mpr c7
        subst c7
        have H1 : (spec_l6Fault_in.j0 k l0 true) = some r := by rw [if_neg (show ¬ (false = true) by decide)] at H; exact H
        clear H; have H := H1; clear H1
        have H' := Aside0.mk H
        clear H
        have p291 : 0 ≤ (0 : Int) := (by omega)
        have q291 : 0 < (l0.length : Int) := pD
        obtain ⟨ad291, A291_4, c291_4, e291, hx291_0, hx291_1, hx291_2, hx291_3, hx291_4, hl291_4, hi291_4⟩ := at_T72 HR0.out 0 p291 q291
        cases e291
        have qi291 : (0 < l0.length) = True := eq_true (by omega)
        (try rw [z0] at hx291_0); (try rw [Nat.zero_mul] at hx291_0); (try rw [Addr.add_zero'] at hx291_0); (try rw [z0] at hx291_1); (try rw [Nat.zero_mul] at hx291_1); (try rw [Addr.add_zero'] at hx291_1); (try rw [z0] at hx291_2); (try rw [Nat.zero_mul] at hx291_2); (try rw [Addr.add_zero'] at hx291_2); (try rw [z0] at hx291_3); (try rw [Nat.zero_mul] at hx291_3); (try rw [Addr.add_zero'] at hx291_3); (try rw [z0] at hx291_4); (try rw [Nat.zero_mul] at hx291_4); (try rw [Addr.add_zero'] at hx291_4); replace hx291_0 := cb HB hx291_0; replace hx291_1 := cb HB hx291_1; replace hx291_2 := cb HB hx291_2; replace hx291_3 := cb HB hx291_3; replace hx291_4 := cb HB hx291_4; have HR291_4 := Aside0.mk hi291_4; have HC291_4 := Aside0.mk hl291_4; clear hi291_4 hl291_4; replace p291 := eq_true p291; replace q291 := eq_true q291
        go_wp2_with (first | ((with_reducible refine gate_callee (f := 130) rfl ?_); refine goesL_ (some 9) rfl rfl Try.func130 (by kernel_rfl) rfl #[.int .i64 ((rd_T72 l0 0).f0)] rfl pA ?_; (with_reducible refine (spec_l4Sum.calls ((rd_T72 l0 0).f0) true _ A4.out).mono ?_); rintro e w' ⟨rfl, ⟨nd, rfl⟩⟩; refine ⟨_, rfl, ?_⟩) | (go_at_call 81; (with_reducible refine (spec_l1In.calls ((rd_T72 l0 0).f1) 1 99999 false _ A6.out).mono ?_); rintro e w' ⟨rfl, ⟨nd, rfl⟩⟩))
        go_meet
        case rel => exact ⟨_, (true), pF, H', ⟨by first | omega | exact Nat.le_refl _⟩, ⟨pB⟩⟩
    · replace c5 := Bool.eq_false_iff.mpr c5
      subst c5
      have H1 : (spec_l6Fault_in.j0 k l0 true) = some r := by rw [if_neg (show ¬ (false = true) by decide)] at H; exact H
      clear H; have H := H1; clear H1
      have H' := Aside0.mk H
      clear H
      have p291 : 0 ≤ (0 : Int) := (by omega)
      have q291 : 0 < (l0.length : Int) := pD
      obtain ⟨ad291, A291_4, c291_4, e291, hx291_0, hx291_1, hx291_2, hx291_3, hx291_4, hl291_4, hi291_4⟩ := at_T72 HR0.out 0 p291 q291
      cases e291
      have qi291 : (0 < l0.length) = True := eq_true (by omega)
      (try rw [z0] at hx291_0); (try rw [Nat.zero_mul] at hx291_0); (try rw [Addr.add_zero'] at hx291_0); (try rw [z0] at hx291_1); (try rw [Nat.zero_mul] at hx291_1); (try rw [Addr.add_zero'] at hx291_1); (try rw [z0] at hx291_2); (try rw [Nat.zero_mul] at hx291_2); (try rw [Addr.add_zero'] at hx291_2); (try rw [z0] at hx291_3); (try rw [Nat.zero_mul] at hx291_3); (try rw [Addr.add_zero'] at hx291_3); (try rw [z0] at hx291_4); (try rw [Nat.zero_mul] at hx291_4); (try rw [Addr.add_zero'] at hx291_4); replace hx291_0 := cb HB hx291_0; replace hx291_1 := cb HB hx291_1; replace hx291_2 := cb HB hx291_2; replace hx291_3 := cb HB hx291_3; replace hx291_4 := cb HB hx291_4; have HR291_4 := Aside0.mk hi291_4; have HC291_4 := Aside0.mk hl291_4; clear hi291_4 hl291_4; replace p291 := eq_true p291; replace q291 := eq_true q291
      go_wp2_with (first | ((with_reducible refine gate_callee (f := 130) rfl ?_); refine goesL_ (some 9) rfl rfl Try.func130 (by kernel_rfl) rfl #[.int .i64 ((rd_T72 l0 0).f0)] rfl pA ?_; (with_reducible refine (spec_l4Sum.calls ((rd_T72 l0 0).f0) false _ A4.out).mono ?_); rintro e w' ⟨rfl, ⟨nd, rfl⟩⟩; refine ⟨_, rfl, ?_⟩))
      go_meet
      case rel => exact ⟨_, (true), pF, H', ⟨by first | omega | exact Nat.le_refl _⟩, ⟨pB⟩⟩
  · rw [if_neg c3] at H
    exact absurd H (by simp)
 case rest =>
  clear HC2; (try clear c1); (try clear c2); (try clear p2); (try clear q2); (try clear hx2); (try clear qi2); (try clear c3); (try clear c3b0); (try clear c3b1); (try clear c5); (try clear c7); (try clear c9); (try clear hx291_0); (try clear hx291_1); (try clear hx291_2); (try clear hx291_3); (try clear hx291_4); (try clear p291); (try clear q291)
  obtain ⟨kq, x34_1, rfl, HA, HJ1, HB⟩ := hcut
  cases kq with
  | zero => exact absurd HA.out (by simp [spec_l6Fault_in.j0])
  | succ kj1 =>
   have H := HA.out
   clear HA
   simp only [spec_l6Fault_in.j0] at H
   by_cases c11 : x34_1 = true
   · subst c11
     have H1 : (some 3) = some r := by rw [if_pos rfl] at H; exact H
     clear H; have H := H1; clear H1
     obtain rfl := Option.some.inj H
     go_wp2
     go_ret
     exact ⟨pE, pB⟩
   · replace c11 := Bool.eq_false_iff.mpr c11
     subst c11
     have H1 : (if 0 < (l0.length : Int) then (if (((rd_T72 l0 0).f4).length : Int) < 1 then (spec_l6Fault_in.j1 kj1 l0 true) else (spec_l6Fault_in.j1 kj1 l0 (decide ((((rd_T72 l0 0).f4).length : Int) > 4)))) else (none)) = some r := by rw [if_neg (show ¬ (false = true) by decide)] at H; exact H
     clear H; have H := H1; clear H1; have HC12 := Aside0.mk H; clear H
     go_upto_region 3 with (fail)
     go_cut [48] (fun v48 wc => ∃ (kq : Nat) (x48_11 : Bool), v48 = .bool x48_11 ∧ Aside0 (spec_l6Fault_in.j1 kq l0 x48_11 = some r) ∧ Aside0 (kq ≤ kj1) ∧ Aside0 (Below w.heap.size w wc))
     case first =>
      have H := HC12.out
      clear HC12
      by_cases c13 : 0 < (l0.length : Int)
      · rw [if_pos c13] at H
        have c13b0 : decide (0 < (l0.length : Int)) = true := decide_eq_true c13
        have c13b1 : decide (0 < l0.length) = true := decide_eq_true (by omega)
        clear c13
        (first | rw [c13b0] | (simp only [i64_w, i32_w]; rw [c13b0]) | skip)
        by_cases c14 : (((rd_T72 l0 0).f4).length : Int) < 1
        · rw [if_pos c14] at H
          have c14b0 : decide ((((rd_T72 l0 0).f4).length : Int) < 1) = true := decide_eq_true c14
          have c14b1 : decide (((rd_T72 l0 0).f4).length < 1) = true := decide_eq_true (by omega)
          clear c14
          have H' := Aside0.mk H
          clear H
          have p296 : 0 ≤ (0 : Int) := (by omega)
          have q296 : 0 < (l0.length : Int) := pD
          obtain ⟨ad296, A296_4, c296_4, e296, hx296_0, hx296_1, hx296_2, hx296_3, hx296_4, hl296_4, hi296_4⟩ := at_T72 HR0.out 0 p296 q296
          cases e296
          have qi296 : (0 < l0.length) = True := eq_true (by omega)
          (try rw [z0] at hx296_0); (try rw [Nat.zero_mul] at hx296_0); (try rw [Addr.add_zero'] at hx296_0); (try rw [z0] at hx296_1); (try rw [Nat.zero_mul] at hx296_1); (try rw [Addr.add_zero'] at hx296_1); (try rw [z0] at hx296_2); (try rw [Nat.zero_mul] at hx296_2); (try rw [Addr.add_zero'] at hx296_2); (try rw [z0] at hx296_3); (try rw [Nat.zero_mul] at hx296_3); (try rw [Addr.add_zero'] at hx296_3); (try rw [z0] at hx296_4); (try rw [Nat.zero_mul] at hx296_4); (try rw [Addr.add_zero'] at hx296_4); replace hx296_0 := cb HB hx296_0; replace hx296_1 := cb HB hx296_1; replace hx296_2 := cb HB hx296_2; replace hx296_3 := cb HB hx296_3; replace hx296_4 := cb HB hx296_4; have HR296_4 := Aside0.mk hi296_4; have HC296_4 := Aside0.mk hl296_4; clear hi296_4 hl296_4; replace p296 := eq_true p296; replace q296 := eq_true q296
          go_wp2
          go_meet
          case rel => exact ⟨_, (true), pF, H', ⟨by have := HJ1.out; first | omega | exact Nat.le_refl _⟩, ⟨pB⟩⟩
        · rw [if_neg c14] at H
          have c14b0 : decide ((((rd_T72 l0 0).f4).length : Int) < 1) = false := decide_eq_false c14
          have c14b1 : decide (((rd_T72 l0 0).f4).length < 1) = false := decide_eq_false (by omega)
          clear c14
          have H' := Aside0.mk H
          clear H
          have p296 : 0 ≤ (0 : Int) := (by omega)
          have q296 : 0 < (l0.length : Int) := pD
          obtain ⟨ad296, A296_4, c296_4, e296, hx296_0, hx296_1, hx296_2, hx296_3, hx296_4, hl296_4, hi296_4⟩ := at_T72 HR0.out 0 p296 q296
          cases e296
          have qi296 : (0 < l0.length) = True := eq_true (by omega)
          (try rw [z0] at hx296_0); (try rw [Nat.zero_mul] at hx296_0); (try rw [Addr.add_zero'] at hx296_0); (try rw [z0] at hx296_1); (try rw [Nat.zero_mul] at hx296_1); (try rw [Addr.add_zero'] at hx296_1); (try rw [z0] at hx296_2); (try rw [Nat.zero_mul] at hx296_2); (try rw [Addr.add_zero'] at hx296_2); (try rw [z0] at hx296_3); (try rw [Nat.zero_mul] at hx296_3); (try rw [Addr.add_zero'] at hx296_3); (try rw [z0] at hx296_4); (try rw [Nat.zero_mul] at hx296_4); (try rw [Addr.add_zero'] at hx296_4); replace hx296_0 := cb HB hx296_0; replace hx296_1 := cb HB hx296_1; replace hx296_2 := cb HB hx296_2; replace hx296_3 := cb HB hx296_3; replace hx296_4 := cb HB hx296_4; have HR296_4 := Aside0.mk hi296_4; have HC296_4 := Aside0.mk hl296_4; clear hi296_4 hl296_4; replace p296 := eq_true p296; replace q296 := eq_true q296
          go_wp2
          go_meet
          case rel => exact ⟨_, (decide ((((rd_T72 l0 0).f4).length : Int) > 4)), pF, H', ⟨by have := HJ1.out; first | omega | exact Nat.le_refl _⟩, ⟨pB⟩⟩
      · rw [if_neg c13] at H
        exact absurd H (by simp)
     case rest =>
      clear HC12; (try clear c1); (try clear c2); (try clear p2); (try clear q2); (try clear hx2); (try clear qi2); (try clear c3); (try clear c3b0); (try clear c3b1); (try clear c5); (try clear c7); (try clear c9); (try clear c11); (try clear c13); (try clear c13b0); (try clear c13b1); (try clear c14); (try clear c14b0); (try clear c14b1); (try clear hx291_0); (try clear hx291_1); (try clear hx291_2); (try clear hx291_3); (try clear hx291_4); (try clear hx296_0); (try clear hx296_1); (try clear hx296_2); (try clear hx296_3); (try clear hx296_4); (try clear p2); (try clear p291); (try clear p296); (try clear q2); (try clear q291); (try clear q296)
      obtain ⟨kq, x48_11, rfl, HA, HJ11, HB⟩ := hcut
      cases kq with
      | zero => exact absurd HA.out (by simp [spec_l6Fault_in.j1])
      | succ kj11 =>
       have H := HA.out
       clear HA
       simp only [spec_l6Fault_in.j1] at H
       by_cases c15 : x48_11 = true
       · subst c15
         have H1 : (some 2) = some r := by rw [if_pos rfl] at H; exact H
         clear H; have H := H1; clear H1
         obtain rfl := Option.some.inj H
         go_wp2
         go_ret
         exact ⟨pE, pB⟩
       · replace c15 := Bool.eq_false_iff.mpr c15
         subst c15
         have H1 : (spec_l6Fault_in.l0 kj11 l0 0) = some r := by rw [if_neg (show ¬ (false = true) by decide)] at H; exact H
         clear H; have H := H1; clear H1
         have H' := Aside0.mk H
         clear H
         go_wp2
         go_loopg [3] kj11 (fun kq v3 w' => ∃ (x3_3 : Int), v3 = .int .i64 x3_3 ∧ Aside0 (spec_l6Fault_in.l0 kq l0 x3_3 = some r) ∧ Aside0 (kq ≤ kj11) ∧ Aside0 (Below w.heap.size w w'))
         case atStart => exact ⟨(0), pF, H', ⟨Nat.le_refl _⟩, ⟨pB⟩⟩
         case round =>
          clear H'
          (try clear c1); (try clear c2); (try clear p2); (try clear q2); (try clear hx2); (try clear qi2); (try clear c3); (try clear c3b0); (try clear c3b1); (try clear c5); (try clear c7); (try clear c9); (try clear c11); (try clear c13); (try clear c13b0); (try clear c13b1); (try clear c14); (try clear c14b0); (try clear c14b1); (try clear c15); (try clear hx291_0); (try clear hx291_1); (try clear hx291_2); (try clear hx291_3); (try clear hx291_4); (try clear hx296_0); (try clear hx296_1); (try clear hx296_2); (try clear hx296_3); (try clear hx296_4); (try clear p2); (try clear p291); (try clear p296); (try clear q2); (try clear q291); (try clear q296)
          obtain ⟨x3_3, rfl, HA, HK3, HB⟩ := hrel
          cases gk with
          | zero => exact absurd HA.out (by simp [spec_l6Fault_in.l0])
          | succ k3 =>
           have H := HA.out
           clear HA
           simp only [spec_l6Fault_in.l0] at H
           by_cases c16 : 0 < (l0.length : Int)
           · rw [if_pos c16] at H
             have c16b0 : decide (0 < (l0.length : Int)) = true := decide_eq_true c16
             have c16b1 : decide (0 < l0.length) = true := decide_eq_true (by omega)
             clear c16
             by_cases c17 : x3_3 < (((rd_T72 l0 0).f4).length : Int)
             · rw [if_pos c17] at H
               have c17b0 : decide (x3_3 < (((rd_T72 l0 0).f4).length : Int)) = true := decide_eq_true c17
               clear c17
               by_cases c18 : 0 ≤ x3_3
               · rw [if_pos c18] at H
                 have c18b0 : decide (0 ≤ x3_3) = true := decide_eq_true c18
                 clear c18
                 obtain ⟨t300, A190, H⟩ := bO H
                 replace H : (if t300 = 0 then (spec_l6Fault_in.l0 k3 l0 (wrap64 (x3_3 + 1))) else (some t300)) = some r := H
                 have A19 := Aside0.mk A190; clear A190
                 by_cases c20 : t300 = 0
                 · rw [if_pos c20] at H
                   have c20b0 : (t300 == 0) = true := beq_iff_eq.mpr c20
                   have c20b1 : (t300 != 0) = false := bne_eq_false_iff_eq.mpr c20
                   clear c20
                   have H' := Aside0.mk H
                   clear H
                   have p297 : 0 ≤ (0 : Int) := (by omega)
                   have q297 : 0 < (l0.length : Int) := pD
                   obtain ⟨ad297, A297_4, c297_4, e297, hx297_0, hx297_1, hx297_2, hx297_3, hx297_4, hl297_4, hi297_4⟩ := at_T72 HR0.out 0 p297 q297
                   cases e297
                   have qi297 : (0 < l0.length) = True := eq_true (by omega)
                   (try rw [z0] at hx297_0); (try rw [Nat.zero_mul] at hx297_0); (try rw [Addr.add_zero'] at hx297_0); (try rw [z0] at hx297_1); (try rw [Nat.zero_mul] at hx297_1); (try rw [Addr.add_zero'] at hx297_1); (try rw [z0] at hx297_2); (try rw [Nat.zero_mul] at hx297_2); (try rw [Addr.add_zero'] at hx297_2); (try rw [z0] at hx297_3); (try rw [Nat.zero_mul] at hx297_3); (try rw [Addr.add_zero'] at hx297_3); (try rw [z0] at hx297_4); (try rw [Nat.zero_mul] at hx297_4); (try rw [Addr.add_zero'] at hx297_4); replace hx297_0 := cb HB hx297_0; replace hx297_1 := cb HB hx297_1; replace hx297_2 := cb HB hx297_2; replace hx297_3 := cb HB hx297_3; replace hx297_4 := cb HB hx297_4; have HR297_4 := Aside0.mk hi297_4; have HC297_4 := Aside0.mk hl297_4; clear hi297_4 hl297_4; replace p297 := eq_true p297; replace q297 := eq_true q297
                   have p298 : 0 ≤ (0 : Int) := (by omega)
                   have q298 : 0 < (l0.length : Int) := pD
                   (try clear hx297_0); (try clear hx297_1); (try clear hx297_2); (try clear hx297_3); (try clear hHeld)
                   obtain ⟨ad298, A298_4, c298_4, e298, hx298_0, hx298_1, hx298_2, hx298_3, hx298_4, hl298_4, hi298_4⟩ := at_T72 HR0.out 0 p298 q298
                   obtain rfl : ad297 = ad298 := (by injection e298)
                   have qi298 : (0 < l0.length) = True := eq_true (by omega)
                   (try rw [z0] at hx298_0); (try rw [Nat.zero_mul] at hx298_0); (try rw [Addr.add_zero'] at hx298_0); (try rw [z0] at hx298_1); (try rw [Nat.zero_mul] at hx298_1); (try rw [Addr.add_zero'] at hx298_1); (try rw [z0] at hx298_2); (try rw [Nat.zero_mul] at hx298_2); (try rw [Addr.add_zero'] at hx298_2); (try rw [z0] at hx298_3); (try rw [Nat.zero_mul] at hx298_3); (try rw [Addr.add_zero'] at hx298_3); (try rw [z0] at hx298_4); (try rw [Nat.zero_mul] at hx298_4); (try rw [Addr.add_zero'] at hx298_4); replace hx298_0 := cb HB hx298_0; replace hx298_1 := cb HB hx298_1; replace hx298_2 := cb HB hx298_2; replace hx298_3 := cb HB hx298_3; replace hx298_4 := cb HB hx298_4; have HR298_4 := Aside0.mk hi298_4; have HC298_4 := Aside0.mk hl298_4; clear hi298_4 hl298_4; replace p298 := eq_true p298; replace q298 := eq_true q298
                   have ea_ := Option.some.inj (hx297_4.symm.trans hx298_4)
                   injection ea_ with ea_ en_ ec_
                   subst ea_; subst ec_; clear en_
                   have p299 : 0 ≤ (x3_3 : Int) := pD
                   have q299 : x3_3 < (((rd_T72 l0 0).f4).length : Int) := pD
                   obtain ⟨ad299, A299_1, c299_1, A299_2, c299_2, e299, hx299_0, hx299_1, hx299_2, hl299_1, hi299_1, hl299_2, hi299_2⟩ := at_T27 HR298_4.out x3_3 p299 q299
                   cases e299; replace hx299_0 := cb HB hx299_0; replace hx299_1 := cb HB hx299_1; replace hx299_2 := cb HB hx299_2; have HR299_1 := Aside0.mk hi299_1; have HC299_1 := Aside0.mk hl299_1; clear hi299_1 hl299_1; have HR299_2 := Aside0.mk hi299_2; have HC299_2 := Aside0.mk hl299_2; clear hi299_2 hl299_2; replace p299 := eq_true p299; replace q299 := eq_true q299
                   go_wp2_with (first | ((with_reducible refine gate_callee (f := 53) rfl ?_); refine goesL_ (some 64) rfl rfl Try.func53 (by kernel_rfl) rfl #[.pointer (some _)] rfl pA ?_; (refine Calls.mono (spec_l3Fault.calls k3 ((rd_T27 ((rd_T72 l0 0).f4) x3_3).f0) _ _ ((rd_T27 ((rd_T72 l0 0).f4) x3_3).f1) _ _ ((rd_T27 ((rd_T72 l0 0).f4) x3_3).f2) t300 _ ?side1 ?side2 ?side3 ?side4 A19.out (hpp0_0 := by first | (with_unfolding_all assumption) | (dsimp only; assumption) | (dsimp only [Nat.zero_add]; exact (blk_cell (Aside0.out (by assumption)) _).trans rfl) | (go_simp; done)) (hpp0_1 := by first | (with_unfolding_all assumption) | (dsimp only; assumption) | (dsimp only [Nat.zero_add]; exact (blk_cell (Aside0.out (by assumption)) _).trans rfl) | (go_simp; done)) (hpp0_2 := by first | (with_unfolding_all assumption) | (dsimp only; assumption) | (dsimp only [Nat.zero_add]; exact (blk_cell (Aside0.out (by assumption)) _).trans rfl) | (go_simp; done))) ?_); (case side1 => exact pC (Kd.C_below HR299_1.out HB.out)); (case side2 => exact HC299_1.out); (case side3 => exact pC (Kd.C_below HR299_2.out HB.out)); (case side4 => exact HC299_2.out); rintro e w21 ⟨rfl, hb⟩; refine ⟨_, rfl, ?_⟩; have n_ := am (below_step pB hb); clear HB; have HB := n_; clear n_; (try clear hb)))
                   go_roundg k3
                   case measure => have := HJ1.out; have := HJ11.out; have := HK3.out; omega
                   case rel => exact ⟨(wrap64 (x3_3 + 1)), pF, H', ⟨by have := HJ1.out; have := HJ11.out; have := HK3.out; omega⟩, ⟨pB⟩⟩
                 · rw [if_neg c20] at H
                   have c20b0 : (t300 == 0) = false := beq_eq_false_iff_ne.mpr c20
                   have c20b1 : (t300 != 0) = true := bne_iff_ne.mpr c20
                   obtain rfl := Option.some.inj H
                   have p297 : 0 ≤ (0 : Int) := (by omega)
                   have q297 : 0 < (l0.length : Int) := pD
                   obtain ⟨ad297, A297_4, c297_4, e297, hx297_0, hx297_1, hx297_2, hx297_3, hx297_4, hl297_4, hi297_4⟩ := at_T72 HR0.out 0 p297 q297
                   cases e297
                   have qi297 : (0 < l0.length) = True := eq_true (by omega)
                   (try rw [z0] at hx297_0); (try rw [Nat.zero_mul] at hx297_0); (try rw [Addr.add_zero'] at hx297_0); (try rw [z0] at hx297_1); (try rw [Nat.zero_mul] at hx297_1); (try rw [Addr.add_zero'] at hx297_1); (try rw [z0] at hx297_2); (try rw [Nat.zero_mul] at hx297_2); (try rw [Addr.add_zero'] at hx297_2); (try rw [z0] at hx297_3); (try rw [Nat.zero_mul] at hx297_3); (try rw [Addr.add_zero'] at hx297_3); (try rw [z0] at hx297_4); (try rw [Nat.zero_mul] at hx297_4); (try rw [Addr.add_zero'] at hx297_4); replace hx297_0 := cb HB hx297_0; replace hx297_1 := cb HB hx297_1; replace hx297_2 := cb HB hx297_2; replace hx297_3 := cb HB hx297_3; replace hx297_4 := cb HB hx297_4; have HR297_4 := Aside0.mk hi297_4; have HC297_4 := Aside0.mk hl297_4; clear hi297_4 hl297_4; replace p297 := eq_true p297; replace q297 := eq_true q297
                   have p298 : 0 ≤ (0 : Int) := (by omega)
                   have q298 : 0 < (l0.length : Int) := pD
                   (try clear hx297_0); (try clear hx297_1); (try clear hx297_2); (try clear hx297_3); (try clear hHeld)
                   obtain ⟨ad298, A298_4, c298_4, e298, hx298_0, hx298_1, hx298_2, hx298_3, hx298_4, hl298_4, hi298_4⟩ := at_T72 HR0.out 0 p298 q298
                   obtain rfl : ad297 = ad298 := (by injection e298)
                   have qi298 : (0 < l0.length) = True := eq_true (by omega)
                   (try rw [z0] at hx298_0); (try rw [Nat.zero_mul] at hx298_0); (try rw [Addr.add_zero'] at hx298_0); (try rw [z0] at hx298_1); (try rw [Nat.zero_mul] at hx298_1); (try rw [Addr.add_zero'] at hx298_1); (try rw [z0] at hx298_2); (try rw [Nat.zero_mul] at hx298_2); (try rw [Addr.add_zero'] at hx298_2); (try rw [z0] at hx298_3); (try rw [Nat.zero_mul] at hx298_3); (try rw [Addr.add_zero'] at hx298_3); (try rw [z0] at hx298_4); (try rw [Nat.zero_mul] at hx298_4); (try rw [Addr.add_zero'] at hx298_4); replace hx298_0 := cb HB hx298_0; replace hx298_1 := cb HB hx298_1; replace hx298_2 := cb HB hx298_2; replace hx298_3 := cb HB hx298_3; replace hx298_4 := cb HB hx298_4; have HR298_4 := Aside0.mk hi298_4; have HC298_4 := Aside0.mk hl298_4; clear hi298_4 hl298_4; replace p298 := eq_true p298; replace q298 := eq_true q298
                   have ea_ := Option.some.inj (hx297_4.symm.trans hx298_4)
                   injection ea_ with ea_ en_ ec_
                   subst ea_; subst ec_; clear en_
                   have p299 : 0 ≤ (x3_3 : Int) := pD
                   have q299 : x3_3 < (((rd_T72 l0 0).f4).length : Int) := pD
                   obtain ⟨ad299, A299_1, c299_1, A299_2, c299_2, e299, hx299_0, hx299_1, hx299_2, hl299_1, hi299_1, hl299_2, hi299_2⟩ := at_T27 HR298_4.out x3_3 p299 q299
                   cases e299; replace hx299_0 := cb HB hx299_0; replace hx299_1 := cb HB hx299_1; replace hx299_2 := cb HB hx299_2; have HR299_1 := Aside0.mk hi299_1; have HC299_1 := Aside0.mk hl299_1; clear hi299_1 hl299_1; have HR299_2 := Aside0.mk hi299_2; have HC299_2 := Aside0.mk hl299_2; clear hi299_2 hl299_2; replace p299 := eq_true p299; replace q299 := eq_true q299
                   go_wp2_with (first | ((with_reducible refine gate_callee (f := 53) rfl ?_); refine goesL_ (some 64) rfl rfl Try.func53 (by kernel_rfl) rfl #[.pointer (some _)] rfl pA ?_; (refine Calls.mono (spec_l3Fault.calls k3 ((rd_T27 ((rd_T72 l0 0).f4) x3_3).f0) _ _ ((rd_T27 ((rd_T72 l0 0).f4) x3_3).f1) _ _ ((rd_T27 ((rd_T72 l0 0).f4) x3_3).f2) t300 _ ?side1 ?side2 ?side3 ?side4 A19.out (hpp0_0 := by first | (with_unfolding_all assumption) | (dsimp only; assumption) | (dsimp only [Nat.zero_add]; exact (blk_cell (Aside0.out (by assumption)) _).trans rfl) | (go_simp; done)) (hpp0_1 := by first | (with_unfolding_all assumption) | (dsimp only; assumption) | (dsimp only [Nat.zero_add]; exact (blk_cell (Aside0.out (by assumption)) _).trans rfl) | (go_simp; done)) (hpp0_2 := by first | (with_unfolding_all assumption) | (dsimp only; assumption) | (dsimp only [Nat.zero_add]; exact (blk_cell (Aside0.out (by assumption)) _).trans rfl) | (go_simp; done))) ?_); (case side1 => exact pC (Kd.C_below HR299_1.out HB.out)); (case side2 => exact HC299_1.out); (case side3 => exact pC (Kd.C_below HR299_2.out HB.out)); (case side4 => exact HC299_2.out); rintro e w22 ⟨rfl, hb⟩; refine ⟨_, rfl, ?_⟩; have n_ := am (below_step pB hb); clear HB; have HB := n_; clear n_; (try clear hb)))
                   go_ret
                   exact ⟨pE, pB⟩
               · rw [if_neg c18] at H
                 exact absurd H (by simp)
             · rw [if_neg c17] at H
               have c17b0 : decide (x3_3 < (((rd_T72 l0 0).f4).length : Int)) = false := decide_eq_false c17
               clear c17
               obtain ⟨t302, A230, H⟩ := bO H
               replace H : (if t302 = true then ((spec_l6Sums.f k3 ((rd_T72 l0 0).f0) ((rd_T72 l0 0).f1) ((rd_T72 l0 0).f2) ((rd_T72 l0 0).f3) ((rd_T72 l0 0).f4)).bind fun t304 => ((spec_l4Twin.f k3 t304).bind fun t307 => (if t307 = true then (some 6) else (some 0)))) else (some 1)) = some r := H
               have A23 := Aside0.mk A230; clear A230
               by_cases c24 : t302 = true
               · subst c24
                 have H1 : ((spec_l6Sums.f k3 ((rd_T72 l0 0).f0) ((rd_T72 l0 0).f1) ((rd_T72 l0 0).f2) ((rd_T72 l0 0).f3) ((rd_T72 l0 0).f4)).bind fun t304 => ((spec_l4Twin.f k3 t304).bind fun t307 => (if t307 = true then (some 6) else (some 0)))) = some r := by rw [if_pos rfl] at H; exact H
                 clear H; have H := H1; clear H1
                 obtain ⟨t304, A250, H⟩ := bO H
                 replace H : ((spec_l4Twin.f k3 t304).bind fun t307 => (if t307 = true then (some 6) else (some 0))) = some r := H
                 have A25 := Aside0.mk A250; clear A250
                 obtain ⟨t307, A260, H⟩ := bO H
                 replace H : (if t307 = true then (some 6) else (some 0)) = some r := H
                 have A26 := Aside0.mk A260; clear A260
                 by_cases c27 : t307 = true
                 · subst c27
                   have H1 : (some 6) = some r := by rw [if_pos rfl] at H; exact H
                   clear H; have H := H1; clear H1
                   obtain rfl := Option.some.inj H
                   have p297 : 0 ≤ (0 : Int) := (by omega)
                   have q297 : 0 < (l0.length : Int) := pD
                   obtain ⟨ad297, A297_4, c297_4, e297, hx297_0, hx297_1, hx297_2, hx297_3, hx297_4, hl297_4, hi297_4⟩ := at_T72 HR0.out 0 p297 q297
                   cases e297
                   have qi297 : (0 < l0.length) = True := eq_true (by omega)
                   (try rw [z0] at hx297_0); (try rw [Nat.zero_mul] at hx297_0); (try rw [Addr.add_zero'] at hx297_0); (try rw [z0] at hx297_1); (try rw [Nat.zero_mul] at hx297_1); (try rw [Addr.add_zero'] at hx297_1); (try rw [z0] at hx297_2); (try rw [Nat.zero_mul] at hx297_2); (try rw [Addr.add_zero'] at hx297_2); (try rw [z0] at hx297_3); (try rw [Nat.zero_mul] at hx297_3); (try rw [Addr.add_zero'] at hx297_3); (try rw [z0] at hx297_4); (try rw [Nat.zero_mul] at hx297_4); (try rw [Addr.add_zero'] at hx297_4); replace hx297_0 := cb HB hx297_0; replace hx297_1 := cb HB hx297_1; replace hx297_2 := cb HB hx297_2; replace hx297_3 := cb HB hx297_3; replace hx297_4 := cb HB hx297_4; have HR297_4 := Aside0.mk hi297_4; have HC297_4 := Aside0.mk hl297_4; clear hi297_4 hl297_4; replace p297 := eq_true p297; replace q297 := eq_true q297
                   have p301 : 0 ≤ (0 : Int) := (by omega)
                   have q301 : 0 < (l0.length : Int) := pD
                   (try clear hx297_0); (try clear hx297_1); (try clear hx297_2); (try clear hx297_3); (try clear hHeld)
                   obtain ⟨ad301, A301_4, c301_4, e301, hx301_0, hx301_1, hx301_2, hx301_3, hx301_4, hl301_4, hi301_4⟩ := at_T72 HR0.out 0 p301 q301
                   obtain rfl : ad297 = ad301 := (by injection e301)
                   have qi301 : (0 < l0.length) = True := eq_true (by omega)
                   (try rw [z0] at hx301_0); (try rw [Nat.zero_mul] at hx301_0); (try rw [Addr.add_zero'] at hx301_0); (try rw [z0] at hx301_1); (try rw [Nat.zero_mul] at hx301_1); (try rw [Addr.add_zero'] at hx301_1); (try rw [z0] at hx301_2); (try rw [Nat.zero_mul] at hx301_2); (try rw [Addr.add_zero'] at hx301_2); (try rw [z0] at hx301_3); (try rw [Nat.zero_mul] at hx301_3); (try rw [Addr.add_zero'] at hx301_3); (try rw [z0] at hx301_4); (try rw [Nat.zero_mul] at hx301_4); (try rw [Addr.add_zero'] at hx301_4); replace hx301_0 := cb HB hx301_0; replace hx301_1 := cb HB hx301_1; replace hx301_2 := cb HB hx301_2; replace hx301_3 := cb HB hx301_3; replace hx301_4 := cb HB hx301_4; have HR301_4 := Aside0.mk hi301_4; have HC301_4 := Aside0.mk hl301_4; clear hi301_4 hl301_4; replace p301 := eq_true p301; replace q301 := eq_true q301
                   have ea_ := Option.some.inj (hx297_4.symm.trans hx301_4)
                   injection ea_ with ea_ en_ ec_
                   subst ea_; subst ec_; clear en_
                   go_wp2_with (first | ((with_reducible refine gate_callee (f := 132) rfl ?_); refine goesL_ (some 69) rfl rfl Try.func132 (by kernel_rfl) rfl #[.pointer (some _)] rfl pA ?_; (refine Calls.mono (spec_l6Bases.calls k3 ((rd_T72 l0 0).f0) ((rd_T72 l0 0).f1) ((rd_T72 l0 0).f2) ((rd_T72 l0 0).f3) _ _ ((rd_T72 l0 0).f4) true _ ?side1 ?side2 A23.out (hpp0_0 := by first | (with_unfolding_all assumption) | (dsimp only; assumption) | (dsimp only [Nat.zero_add]; exact (blk_cell (Aside0.out (by assumption)) _).trans rfl) | (go_simp; done)) (hpp0_1 := by first | (with_unfolding_all assumption) | (dsimp only; assumption) | (dsimp only [Nat.zero_add]; exact (blk_cell (Aside0.out (by assumption)) _).trans rfl) | (go_simp; done)) (hpp0_2 := by first | (with_unfolding_all assumption) | (dsimp only; assumption) | (dsimp only [Nat.zero_add]; exact (blk_cell (Aside0.out (by assumption)) _).trans rfl) | (go_simp; done)) (hpp0_3 := by first | (with_unfolding_all assumption) | (dsimp only; assumption) | (dsimp only [Nat.zero_add]; exact (blk_cell (Aside0.out (by assumption)) _).trans rfl) | (go_simp; done)) (hpp0_4 := by first | (with_unfolding_all assumption) | (dsimp only; assumption) | (dsimp only [Nat.zero_add]; exact (blk_cell (Aside0.out (by assumption)) _).trans rfl) | (go_simp; done))) ?_); (case side1 => exact pC (Kd.C_below HR301_4.out HB.out)); (case side2 => exact HC301_4.out); rintro e w28 ⟨rfl, hb⟩; refine ⟨_, rfl, ?_⟩; have n_ := am (below_step pB hb); clear HB; have HB := n_; clear n_; (try clear hb); have p303 : 0 ≤ (0 : Int) := (by omega); have q303 : 0 < (l0.length : Int) := pD; obtain ⟨ad303, A303_4, c303_4, e303, hx303_0, hx303_1, hx303_2, hx303_3, hx303_4, hl303_4, hi303_4⟩ := at_T72 HR0.out 0 p303 q303; obtain rfl : ad297 = ad303 := (by injection e303); have qi303 : (0 < l0.length) = True := eq_true (by omega); (try rw [show ((0 : Int)).toNat = 0 from rfl] at hx303_0); (try rw [show 0 * 5 = 0 from rfl] at hx303_0); (try rw [Addr.add_zero'] at hx303_0); (try rw [show ((0 : Int)).toNat = 0 from rfl] at hx303_1); (try rw [show 0 * 5 = 0 from rfl] at hx303_1); (try rw [Addr.add_zero'] at hx303_1); (try rw [show ((0 : Int)).toNat = 0 from rfl] at hx303_2); (try rw [show 0 * 5 = 0 from rfl] at hx303_2); (try rw [Addr.add_zero'] at hx303_2); (try rw [show ((0 : Int)).toNat = 0 from rfl] at hx303_3); (try rw [show 0 * 5 = 0 from rfl] at hx303_3); (try rw [Addr.add_zero'] at hx303_3); (try rw [show ((0 : Int)).toNat = 0 from rfl] at hx303_4); (try rw [show 0 * 5 = 0 from rfl] at hx303_4); (try rw [Addr.add_zero'] at hx303_4); replace hx303_0 := cb HB hx303_0; replace hx303_1 := cb HB hx303_1; replace hx303_2 := cb HB hx303_2; replace hx303_3 := cb HB hx303_3; replace hx303_4 := cb HB hx303_4; have HR303_4 := Aside0.mk hi303_4; have HC303_4 := Aside0.mk hl303_4; clear hi303_4 hl303_4; replace p303 := eq_true p303; replace q303 := eq_true q303) | ((with_reducible refine gate_callee (f := 98) rfl ?_); refine goesL_ (some 72) rfl rfl Try.func98 (by kernel_rfl) rfl #[.pointer (some _)] rfl pA ?_; (refine Calls.mono (spec_l6Sums.calls k3 ((rd_T72 l0 0).f0) ((rd_T72 l0 0).f1) ((rd_T72 l0 0).f2) ((rd_T72 l0 0).f3) _ _ ((rd_T72 l0 0).f4) t304 _ ?side1 ?side2 A25.out (hpp0_0 := by first | (with_unfolding_all assumption) | (dsimp only; assumption) | (dsimp only [Nat.zero_add]; exact (blk_cell (Aside0.out (by assumption)) _).trans rfl) | (go_simp; done)) (hpp0_1 := by first | (with_unfolding_all assumption) | (dsimp only; assumption) | (dsimp only [Nat.zero_add]; exact (blk_cell (Aside0.out (by assumption)) _).trans rfl) | (go_simp; done)) (hpp0_2 := by first | (with_unfolding_all assumption) | (dsimp only; assumption) | (dsimp only [Nat.zero_add]; exact (blk_cell (Aside0.out (by assumption)) _).trans rfl) | (go_simp; done)) (hpp0_3 := by first | (with_unfolding_all assumption) | (dsimp only; assumption) | (dsimp only [Nat.zero_add]; exact (blk_cell (Aside0.out (by assumption)) _).trans rfl) | (go_simp; done)) (hpp0_4 := by first | (with_unfolding_all assumption) | (dsimp only; assumption) | (dsimp only [Nat.zero_add]; exact (blk_cell (Aside0.out (by assumption)) _).trans rfl) | (go_simp; done))) ?_); (case side1 => exact pC (Kd.C_below HR303_4.out HB.out)); (case side2 => exact HC303_4.out); rintro e w29 ⟨v305, rfl, ho0, hb⟩; refine ⟨_, rfl, ?_⟩; have n_ := t2 (Kd.R_lower ho0 (below_size pB)) (below_step pB hb); clear HB; obtain ⟨HO306, HB⟩ := n_; (try clear hb); (try clear ho0); obtain ⟨Ao30, co30, eo30⟩ := Kd.R_slice HO306.out; subst eo30) | ((with_reducible refine gate_callee (f := 133) rfl ?_); refine goesL_ (some 73) rfl rfl Try.func133 (by kernel_rfl) rfl #[.slice Ao30 t304.length co30] rfl pA ?_; (with_reducible refine (spec_l4Twin.calls k3 (fun k_ => some k_ = (.slice Ao30 t304.length co30 : Value).ownBlock) _ _ t304 true _ ?side1 A26.out).mono ?_); (case side1 => exact Kd.R_V (Kd.R_tight rfl (HO306.out))); rintro e w31 ⟨rfl, hb⟩; refine ⟨_, rfl, ?_⟩; have n_ := t2 (Kd.R_below (pR HO306) hb) (below_step pB hb); clear HO306 HB; obtain ⟨HO306, HB⟩ := n_; (try clear hb)))
                   go_ret
                   exact ⟨pE, pB⟩
                 · replace c27 := Bool.eq_false_iff.mpr c27
                   subst c27
                   have H1 : (some 0) = some r := by rw [if_neg (show ¬ (false = true) by decide)] at H; exact H
                   clear H; have H := H1; clear H1
                   obtain rfl := Option.some.inj H
                   have p297 : 0 ≤ (0 : Int) := (by omega)
                   have q297 : 0 < (l0.length : Int) := pD
                   obtain ⟨ad297, A297_4, c297_4, e297, hx297_0, hx297_1, hx297_2, hx297_3, hx297_4, hl297_4, hi297_4⟩ := at_T72 HR0.out 0 p297 q297
                   cases e297
                   have qi297 : (0 < l0.length) = True := eq_true (by omega)
                   (try rw [z0] at hx297_0); (try rw [Nat.zero_mul] at hx297_0); (try rw [Addr.add_zero'] at hx297_0); (try rw [z0] at hx297_1); (try rw [Nat.zero_mul] at hx297_1); (try rw [Addr.add_zero'] at hx297_1); (try rw [z0] at hx297_2); (try rw [Nat.zero_mul] at hx297_2); (try rw [Addr.add_zero'] at hx297_2); (try rw [z0] at hx297_3); (try rw [Nat.zero_mul] at hx297_3); (try rw [Addr.add_zero'] at hx297_3); (try rw [z0] at hx297_4); (try rw [Nat.zero_mul] at hx297_4); (try rw [Addr.add_zero'] at hx297_4); replace hx297_0 := cb HB hx297_0; replace hx297_1 := cb HB hx297_1; replace hx297_2 := cb HB hx297_2; replace hx297_3 := cb HB hx297_3; replace hx297_4 := cb HB hx297_4; have HR297_4 := Aside0.mk hi297_4; have HC297_4 := Aside0.mk hl297_4; clear hi297_4 hl297_4; replace p297 := eq_true p297; replace q297 := eq_true q297
                   have p301 : 0 ≤ (0 : Int) := (by omega)
                   have q301 : 0 < (l0.length : Int) := pD
                   (try clear hx297_0); (try clear hx297_1); (try clear hx297_2); (try clear hx297_3); (try clear hHeld)
                   obtain ⟨ad301, A301_4, c301_4, e301, hx301_0, hx301_1, hx301_2, hx301_3, hx301_4, hl301_4, hi301_4⟩ := at_T72 HR0.out 0 p301 q301
                   obtain rfl : ad297 = ad301 := (by injection e301)
                   have qi301 : (0 < l0.length) = True := eq_true (by omega)
                   (try rw [z0] at hx301_0); (try rw [Nat.zero_mul] at hx301_0); (try rw [Addr.add_zero'] at hx301_0); (try rw [z0] at hx301_1); (try rw [Nat.zero_mul] at hx301_1); (try rw [Addr.add_zero'] at hx301_1); (try rw [z0] at hx301_2); (try rw [Nat.zero_mul] at hx301_2); (try rw [Addr.add_zero'] at hx301_2); (try rw [z0] at hx301_3); (try rw [Nat.zero_mul] at hx301_3); (try rw [Addr.add_zero'] at hx301_3); (try rw [z0] at hx301_4); (try rw [Nat.zero_mul] at hx301_4); (try rw [Addr.add_zero'] at hx301_4); replace hx301_0 := cb HB hx301_0; replace hx301_1 := cb HB hx301_1; replace hx301_2 := cb HB hx301_2; replace hx301_3 := cb HB hx301_3; replace hx301_4 := cb HB hx301_4; have HR301_4 := Aside0.mk hi301_4; have HC301_4 := Aside0.mk hl301_4; clear hi301_4 hl301_4; replace p301 := eq_true p301; replace q301 := eq_true q301
                   have ea_ := Option.some.inj (hx297_4.symm.trans hx301_4)
                   injection ea_ with ea_ en_ ec_
                   subst ea_; subst ec_; clear en_
                   go_wp2_with (first | ((with_reducible refine gate_callee (f := 132) rfl ?_); refine goesL_ (some 69) rfl rfl Try.func132 (by kernel_rfl) rfl #[.pointer (some _)] rfl pA ?_; (refine Calls.mono (spec_l6Bases.calls k3 ((rd_T72 l0 0).f0) ((rd_T72 l0 0).f1) ((rd_T72 l0 0).f2) ((rd_T72 l0 0).f3) _ _ ((rd_T72 l0 0).f4) true _ ?side1 ?side2 A23.out (hpp0_0 := by first | (with_unfolding_all assumption) | (dsimp only; assumption) | (dsimp only [Nat.zero_add]; exact (blk_cell (Aside0.out (by assumption)) _).trans rfl) | (go_simp; done)) (hpp0_1 := by first | (with_unfolding_all assumption) | (dsimp only; assumption) | (dsimp only [Nat.zero_add]; exact (blk_cell (Aside0.out (by assumption)) _).trans rfl) | (go_simp; done)) (hpp0_2 := by first | (with_unfolding_all assumption) | (dsimp only; assumption) | (dsimp only [Nat.zero_add]; exact (blk_cell (Aside0.out (by assumption)) _).trans rfl) | (go_simp; done)) (hpp0_3 := by first | (with_unfolding_all assumption) | (dsimp only; assumption) | (dsimp only [Nat.zero_add]; exact (blk_cell (Aside0.out (by assumption)) _).trans rfl) | (go_simp; done)) (hpp0_4 := by first | (with_unfolding_all assumption) | (dsimp only; assumption) | (dsimp only [Nat.zero_add]; exact (blk_cell (Aside0.out (by assumption)) _).trans rfl) | (go_simp; done))) ?_); (case side1 => exact pC (Kd.C_below HR301_4.out HB.out)); (case side2 => exact HC301_4.out); rintro e w32 ⟨rfl, hb⟩; refine ⟨_, rfl, ?_⟩; have n_ := am (below_step pB hb); clear HB; have HB := n_; clear n_; (try clear hb); have p303 : 0 ≤ (0 : Int) := (by omega); have q303 : 0 < (l0.length : Int) := pD; obtain ⟨ad303, A303_4, c303_4, e303, hx303_0, hx303_1, hx303_2, hx303_3, hx303_4, hl303_4, hi303_4⟩ := at_T72 HR0.out 0 p303 q303; obtain rfl : ad297 = ad303 := (by injection e303); have qi303 : (0 < l0.length) = True := eq_true (by omega); (try rw [show ((0 : Int)).toNat = 0 from rfl] at hx303_0); (try rw [show 0 * 5 = 0 from rfl] at hx303_0); (try rw [Addr.add_zero'] at hx303_0); (try rw [show ((0 : Int)).toNat = 0 from rfl] at hx303_1); (try rw [show 0 * 5 = 0 from rfl] at hx303_1); (try rw [Addr.add_zero'] at hx303_1); (try rw [show ((0 : Int)).toNat = 0 from rfl] at hx303_2); (try rw [show 0 * 5 = 0 from rfl] at hx303_2); (try rw [Addr.add_zero'] at hx303_2); (try rw [show ((0 : Int)).toNat = 0 from rfl] at hx303_3); (try rw [show 0 * 5 = 0 from rfl] at hx303_3); (try rw [Addr.add_zero'] at hx303_3); (try rw [show ((0 : Int)).toNat = 0 from rfl] at hx303_4); (try rw [show 0 * 5 = 0 from rfl] at hx303_4); (try rw [Addr.add_zero'] at hx303_4); replace hx303_0 := cb HB hx303_0; replace hx303_1 := cb HB hx303_1; replace hx303_2 := cb HB hx303_2; replace hx303_3 := cb HB hx303_3; replace hx303_4 := cb HB hx303_4; have HR303_4 := Aside0.mk hi303_4; have HC303_4 := Aside0.mk hl303_4; clear hi303_4 hl303_4; replace p303 := eq_true p303; replace q303 := eq_true q303) | ((with_reducible refine gate_callee (f := 98) rfl ?_); refine goesL_ (some 72) rfl rfl Try.func98 (by kernel_rfl) rfl #[.pointer (some _)] rfl pA ?_; (refine Calls.mono (spec_l6Sums.calls k3 ((rd_T72 l0 0).f0) ((rd_T72 l0 0).f1) ((rd_T72 l0 0).f2) ((rd_T72 l0 0).f3) _ _ ((rd_T72 l0 0).f4) t304 _ ?side1 ?side2 A25.out (hpp0_0 := by first | (with_unfolding_all assumption) | (dsimp only; assumption) | (dsimp only [Nat.zero_add]; exact (blk_cell (Aside0.out (by assumption)) _).trans rfl) | (go_simp; done)) (hpp0_1 := by first | (with_unfolding_all assumption) | (dsimp only; assumption) | (dsimp only [Nat.zero_add]; exact (blk_cell (Aside0.out (by assumption)) _).trans rfl) | (go_simp; done)) (hpp0_2 := by first | (with_unfolding_all assumption) | (dsimp only; assumption) | (dsimp only [Nat.zero_add]; exact (blk_cell (Aside0.out (by assumption)) _).trans rfl) | (go_simp; done)) (hpp0_3 := by first | (with_unfolding_all assumption) | (dsimp only; assumption) | (dsimp only [Nat.zero_add]; exact (blk_cell (Aside0.out (by assumption)) _).trans rfl) | (go_simp; done)) (hpp0_4 := by first | (with_unfolding_all assumption) | (dsimp only; assumption) | (dsimp only [Nat.zero_add]; exact (blk_cell (Aside0.out (by assumption)) _).trans rfl) | (go_simp; done))) ?_); (case side1 => exact pC (Kd.C_below HR303_4.out HB.out)); (case side2 => exact HC303_4.out); rintro e w33 ⟨v305, rfl, ho0, hb⟩; refine ⟨_, rfl, ?_⟩; have n_ := t2 (Kd.R_lower ho0 (below_size pB)) (below_step pB hb); clear HB; obtain ⟨HO306, HB⟩ := n_; (try clear hb); (try clear ho0); obtain ⟨Ao34, co34, eo34⟩ := Kd.R_slice HO306.out; subst eo34) | ((with_reducible refine gate_callee (f := 133) rfl ?_); refine goesL_ (some 73) rfl rfl Try.func133 (by kernel_rfl) rfl #[.slice Ao34 t304.length co34] rfl pA ?_; (with_reducible refine (spec_l4Twin.calls k3 (fun k_ => some k_ = (.slice Ao34 t304.length co34 : Value).ownBlock) _ _ t304 false _ ?side1 A26.out).mono ?_); (case side1 => exact Kd.R_V (Kd.R_tight rfl (HO306.out))); rintro e w35 ⟨rfl, hb⟩; refine ⟨_, rfl, ?_⟩; have n_ := t2 (Kd.R_below (pR HO306) hb) (below_step pB hb); clear HO306 HB; obtain ⟨HO306, HB⟩ := n_; (try clear hb)))
                   go_ret
                   exact ⟨pE, pB⟩
               · replace c24 := Bool.eq_false_iff.mpr c24
                 subst c24
                 have H1 : (some 1) = some r := by rw [if_neg (show ¬ (false = true) by decide)] at H; exact H
                 clear H; have H := H1; clear H1
                 obtain rfl := Option.some.inj H
                 have p297 : 0 ≤ (0 : Int) := (by omega)
                 have q297 : 0 < (l0.length : Int) := pD
                 obtain ⟨ad297, A297_4, c297_4, e297, hx297_0, hx297_1, hx297_2, hx297_3, hx297_4, hl297_4, hi297_4⟩ := at_T72 HR0.out 0 p297 q297
                 cases e297
                 have qi297 : (0 < l0.length) = True := eq_true (by omega)
                 (try rw [z0] at hx297_0); (try rw [Nat.zero_mul] at hx297_0); (try rw [Addr.add_zero'] at hx297_0); (try rw [z0] at hx297_1); (try rw [Nat.zero_mul] at hx297_1); (try rw [Addr.add_zero'] at hx297_1); (try rw [z0] at hx297_2); (try rw [Nat.zero_mul] at hx297_2); (try rw [Addr.add_zero'] at hx297_2); (try rw [z0] at hx297_3); (try rw [Nat.zero_mul] at hx297_3); (try rw [Addr.add_zero'] at hx297_3); (try rw [z0] at hx297_4); (try rw [Nat.zero_mul] at hx297_4); (try rw [Addr.add_zero'] at hx297_4); replace hx297_0 := cb HB hx297_0; replace hx297_1 := cb HB hx297_1; replace hx297_2 := cb HB hx297_2; replace hx297_3 := cb HB hx297_3; replace hx297_4 := cb HB hx297_4; have HR297_4 := Aside0.mk hi297_4; have HC297_4 := Aside0.mk hl297_4; clear hi297_4 hl297_4; replace p297 := eq_true p297; replace q297 := eq_true q297
                 have p301 : 0 ≤ (0 : Int) := (by omega)
                 have q301 : 0 < (l0.length : Int) := pD
                 (try clear hx297_0); (try clear hx297_1); (try clear hx297_2); (try clear hx297_3); (try clear hHeld)
                 obtain ⟨ad301, A301_4, c301_4, e301, hx301_0, hx301_1, hx301_2, hx301_3, hx301_4, hl301_4, hi301_4⟩ := at_T72 HR0.out 0 p301 q301
                 obtain rfl : ad297 = ad301 := (by injection e301)
                 have qi301 : (0 < l0.length) = True := eq_true (by omega)
                 (try rw [z0] at hx301_0); (try rw [Nat.zero_mul] at hx301_0); (try rw [Addr.add_zero'] at hx301_0); (try rw [z0] at hx301_1); (try rw [Nat.zero_mul] at hx301_1); (try rw [Addr.add_zero'] at hx301_1); (try rw [z0] at hx301_2); (try rw [Nat.zero_mul] at hx301_2); (try rw [Addr.add_zero'] at hx301_2); (try rw [z0] at hx301_3); (try rw [Nat.zero_mul] at hx301_3); (try rw [Addr.add_zero'] at hx301_3); (try rw [z0] at hx301_4); (try rw [Nat.zero_mul] at hx301_4); (try rw [Addr.add_zero'] at hx301_4); replace hx301_0 := cb HB hx301_0; replace hx301_1 := cb HB hx301_1; replace hx301_2 := cb HB hx301_2; replace hx301_3 := cb HB hx301_3; replace hx301_4 := cb HB hx301_4; have HR301_4 := Aside0.mk hi301_4; have HC301_4 := Aside0.mk hl301_4; clear hi301_4 hl301_4; replace p301 := eq_true p301; replace q301 := eq_true q301
                 have ea_ := Option.some.inj (hx297_4.symm.trans hx301_4)
                 injection ea_ with ea_ en_ ec_
                 subst ea_; subst ec_; clear en_
                 go_wp2_with (first | ((with_reducible refine gate_callee (f := 132) rfl ?_); refine goesL_ (some 69) rfl rfl Try.func132 (by kernel_rfl) rfl #[.pointer (some _)] rfl pA ?_; (refine Calls.mono (spec_l6Bases.calls k3 ((rd_T72 l0 0).f0) ((rd_T72 l0 0).f1) ((rd_T72 l0 0).f2) ((rd_T72 l0 0).f3) _ _ ((rd_T72 l0 0).f4) false _ ?side1 ?side2 A23.out (hpp0_0 := by first | (with_unfolding_all assumption) | (dsimp only; assumption) | (dsimp only [Nat.zero_add]; exact (blk_cell (Aside0.out (by assumption)) _).trans rfl) | (go_simp; done)) (hpp0_1 := by first | (with_unfolding_all assumption) | (dsimp only; assumption) | (dsimp only [Nat.zero_add]; exact (blk_cell (Aside0.out (by assumption)) _).trans rfl) | (go_simp; done)) (hpp0_2 := by first | (with_unfolding_all assumption) | (dsimp only; assumption) | (dsimp only [Nat.zero_add]; exact (blk_cell (Aside0.out (by assumption)) _).trans rfl) | (go_simp; done)) (hpp0_3 := by first | (with_unfolding_all assumption) | (dsimp only; assumption) | (dsimp only [Nat.zero_add]; exact (blk_cell (Aside0.out (by assumption)) _).trans rfl) | (go_simp; done)) (hpp0_4 := by first | (with_unfolding_all assumption) | (dsimp only; assumption) | (dsimp only [Nat.zero_add]; exact (blk_cell (Aside0.out (by assumption)) _).trans rfl) | (go_simp; done))) ?_); (case side1 => exact pC (Kd.C_below HR301_4.out HB.out)); (case side2 => exact HC301_4.out); rintro e w36 ⟨rfl, hb⟩; refine ⟨_, rfl, ?_⟩; have n_ := am (below_step pB hb); clear HB; have HB := n_; clear n_; (try clear hb)))
                 go_ret
                 exact ⟨pE, pB⟩
           · rw [if_neg c16] at H
             exact absurd H (by simp)
end Go.Proofs.Ythjlbpgiaehjnaa.QFnExactBlockFault
