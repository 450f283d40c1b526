-- written by this session's program (wip/tools/myprint.py)
import Derived.Test.YthjlbpgiaehjnaaQFnExactBlockRootx0
import Derived.Test.YthjlbpgiaehjnaaQFnExactBlockRootx4
import Derived.Test.YthjlbpgiaehjnaaQFnExactBlockRootx6
import Derived.Test.YthjlbpgiaehjnaaQFnExactBlockRootx9
import Derived.Test.YthjlbpgiaehjnaaQFnExactBlockRootx10
-- squeezed
namespace Go.Proofs.Ythjlbpgiaehjnaa.QFnExactBlockRoot
open Go.RowKit Go.Proofs.YthjlbpgiaehjnaaW.PrintWords Go.Proofs.YthjlbpgiaehjnaaW.PrintLast Go.Proofs.YthjlbpgiaehjnaaW.PrintMore
attribute [local go_sem] max2_int min2_int max_two min_two max_three min_three max_four min_four   -- for this text's walks alone
set_option linter.unusedVariables false
set_option linter.unusedSimpArgs false
set_option maxHeartbeats 8000000
set_option maxRecDepth 100000
mutual
def spec_l6Fault_in.j0 : Nat → List (S72) → Bool → Option (Int)
 | 0, _, _ => none
 | k + 1, x0, x34 => if x34 = true then (some 3) else (if 0 < (x0.length : Int) then (if (((rd_T72 x0 0).f4).length : Int) < 1 then (spec_l6Fault_in.j1 k x0 true) else (spec_l6Fault_in.j1 k x0 (decide ((((rd_T72 x0 0).f4).length : Int) > 4)))) else (none))
def spec_l6Fault_in.j1 : Nat → List (S72) → Bool → Option (Int)
 | 0, _, _ => none
 | k + 1, x0, x48 => if x48 = true then (some 2) else (spec_l6Fault_in.l0 k x0 0)
def spec_l6Fault_in.l0 : Nat → List (S72) → Int → Option (Int)
 | 0, _, _ => none
 | k + 1, x0, x3 => if 0 < (x0.length : Int) then (if x3 < (((rd_T72 x0 0).f4).length : Int) then (if 0 ≤ x3 then ((spec_l3Fault.f k ((rd_T27 ((rd_T72 x0 0).f4) x3).f0) ((rd_T27 ((rd_T72 x0 0).f4) x3).f1) ((rd_T27 ((rd_T72 x0 0).f4) x3).f2)).bind fun t389 => (if t389 = 0 then (spec_l6Fault_in.l0 k x0 (wrap64 (x3 + 1))) else (some t389))) else (none)) else ((spec_l6Bases.f k ((rd_T72 x0 0).f0) ((rd_T72 x0 0).f1) ((rd_T72 x0 0).f2) ((rd_T72 x0 0).f3) ((rd_T72 x0 0).f4)).bind fun t391 => (if t391 = true then ((spec_l6Sums.f k ((rd_T72 x0 0).f0) ((rd_T72 x0 0).f1) ((rd_T72 x0 0).f2) ((rd_T72 x0 0).f3) ((rd_T72 x0 0).f4)).bind fun t393 => ((spec_l4Twin.f k t393).bind fun t396 => (if t396 = true then (some 6) else (some 0)))) else (some 1)))) else (none)
end
def spec_l6Fault_in.f (k : Nat) (l0 : List (S72)) : Option (Int) := if 0 < (l0.length : Int) then ((spec_l4Sum.f ((rd_T72 l0 0).f0)).bind fun t381 => (if t381 = true then ((spec_l1In.f ((rd_T72 l0 0).f1) 1 99999).bind fun t382 => (if t382 = true then ((spec_l1Bits.f ((rd_T72 l0 0).f2)).bind fun t383 => (if t383 = true then ((spec_l1In.f ((rd_T72 l0 0).f3) 0 65535).bind fun t384 => (spec_l6Fault_in.j0 k l0 (!t384))) else (spec_l6Fault_in.j0 k l0 true))) else (spec_l6Fault_in.j0 k l0 true))) else (spec_l6Fault_in.j0 k l0 true))) else (none)
theorem spec_l6Fault_in.mono_l : ∀ k, (∀ y0 y1, LeO (spec_l6Fault_in.j0 k y0 y1) (spec_l6Fault_in.j0 (k + 1) y0 y1)) ∧ (∀ y0 y1, LeO (spec_l6Fault_in.j1 k y0 y1) (spec_l6Fault_in.j1 (k + 1) y0 y1)) ∧ (∀ y0 y1, LeO (spec_l6Fault_in.l0 k y0 y1) (spec_l6Fault_in.l0 (k + 1) y0 y1))
 | 0 => ⟨fun _ _ r h => by simp [spec_l6Fault_in.j0] at h, fun _ _ r h => by simp [spec_l6Fault_in.j1] at h, fun _ _ r h => by simp [spec_l6Fault_in.l0] at h⟩
 | k + 1 => by
  obtain ⟨ih0, ih1, ih2⟩ := spec_l6Fault_in.mono_l k
  refine ⟨?_, ?_, ?_⟩
  · intro y0 y1
    unfold spec_l6Fault_in.j0
    repeat' with_reducible first | exact ih0 _ _ | exact ih1 _ _ | exact ih2 _ _ | exact spec_l3Fault.mono _ _ _ _ | exact spec_l4Twin.mono _ _ | exact spec_l6Bases.mono _ _ _ _ _ _ | exact spec_l6Sums.mono _ _ _ _ _ _ | exact LeO.refl _ | exact LeO.none _ | refine LeO.ite ?_ ?_ | refine LeO.bind ?_ (fun _ => ?_)
  · intro y0 y1
    unfold spec_l6Fault_in.j1
    repeat' with_reducible first | exact ih0 _ _ | exact ih1 _ _ | exact ih2 _ _ | exact spec_l3Fault.mono _ _ _ _ | exact spec_l4Twin.mono _ _ | exact spec_l6Bases.mono _ _ _ _ _ _ | exact spec_l6Sums.mono _ _ _ _ _ _ | exact LeO.refl _ | exact LeO.none _ | refine LeO.ite ?_ ?_ | refine LeO.bind ?_ (fun _ => ?_)
  · intro y0 y1
    unfold spec_l6Fault_in.l0
    repeat' with_reducible first | exact ih0 _ _ | exact ih1 _ _ | exact ih2 _ _ | exact spec_l3Fault.mono _ _ _ _ | exact spec_l4Twin.mono _ _ | exact spec_l6Bases.mono _ _ _ _ _ _ | exact spec_l6Sums.mono _ _ _ _ _ _ | exact LeO.refl _ | exact LeO.none _ | refine LeO.ite ?_ ?_ | refine LeO.bind ?_ (fun _ => ?_)
theorem spec_l6Fault_in.mono : ∀ a0 k, LeO (spec_l6Fault_in.f k a0) (spec_l6Fault_in.f (k + 1) a0) := by
 intro a0 k
 obtain ⟨ih0, ih1, ih2⟩ := spec_l6Fault_in.mono_l k
 unfold spec_l6Fault_in.f
 repeat' with_reducible first | exact ih0 _ _ | exact ih1 _ _ | exact ih2 _ _ | exact spec_l3Fault.mono _ _ _ _ | exact spec_l4Twin.mono _ _ | exact spec_l6Bases.mono _ _ _ _ _ _ | exact spec_l6Sums.mono _ _ _ _ _ _ | exact LeO.refl _ | exact LeO.none _ | refine LeO.ite ?_ ?_ | refine LeO.bind ?_ (fun _ => ?_)
theorem spec_l6Fault_in.calls (k : Nat) (A0 : Option Addr) (c0 : Nat) (l0 : List (S72)) (r : Int) (w : World) (hr0 : Kd.C k72 w A0 l0.length l0) (hc0 : l0.length ≤ c0) (h : spec_l6Fault_in.f k l0 = some r) :
 Calls Try.prog 89 #[.pointer A0] w fun e w' => e = .returned (.int .i64 r) ∧ Below w.heap.size w w' := by
 have hu27 := Try.underlying27
 have hu72 := Try.underlying72
 have HR0 := am hr0; have HC0 := am hc0; clear hr0 hc0
 have HB := am (Below.refl w.heap.size w)
 have H : (if 0 < (l0.length : Int) then ((spec_l4Sum.f ((rd_T72 l0 0).f0)).bind fun t381 => (if t381 = true then ((spec_l1In.f ((rd_T72 l0 0).f1) 1 99999).bind fun t382 => (if t382 = true then ((spec_l1Bits.f ((rd_T72 l0 0).f2)).bind fun t383 => (if t383 = true then ((spec_l1In.f ((rd_T72 l0 0).f3) 0 65535).bind fun t384 => (spec_l6Fault_in.j0 k l0 (!t384))) else (spec_l6Fault_in.j0 k l0 true))) else (spec_l6Fault_in.j0 k l0 true))) else (spec_l6Fault_in.j0 k l0 true))) else (none)) = some r := h
 clear h; have HC2 := am H; clear H
 go_enter Try.func89, Try.ntmps89
 go_upto_region 1 with (fail)
 go_cut [34] (fun v34 wc => ∃ (kq : Nat) (x34_1 : Bool), v34 = .bool x34_1 ∧ Aside0 (spec_l6Fault_in.j0 kq l0 x34_1 = some r) ∧ Aside0 (kq ≤ k) ∧ Aside0 (Below w.heap.size w wc))
 case first =>
  have H := HC2.out
  clear HC2
  by_cases c3 : 0 < (l0.length : Int)
  · rw [if_pos c3] at H
    have c3b0 : decide (0 < (l0.length : Int)) = true := dt c3
    have c3b1 : decide (0 < l0.length) = true := dt (by omega)
    clear c3
    (first | rw [c3b0] | (simp only [i64_w, i32_w]; rw [c3b0]) | skip)
    obtain ⟨t381, A40, H⟩ := bO H
    replace H : (if t381 = true then ((spec_l1In.f ((rd_T72 l0 0).f1) 1 99999).bind fun t382 => (if t382 = true then ((spec_l1Bits.f ((rd_T72 l0 0).f2)).bind fun t383 => (if t383 = true then ((spec_l1In.f ((rd_T72 l0 0).f3) 0 65535).bind fun t384 => (spec_l6Fault_in.j0 k l0 (!t384))) else (spec_l6Fault_in.j0 k l0 true))) else (spec_l6Fault_in.j0 k l0 true))) else (spec_l6Fault_in.j0 k l0 true)) = some r := H
    have A4 := am A40; clear A40
    by_cases c5 : t381 = true
    · subst c5
      have H1 : ((spec_l1In.f ((rd_T72 l0 0).f1) 1 99999).bind fun t382 => (if t382 = true then ((spec_l1Bits.f ((rd_T72 l0 0).f2)).bind fun t383 => (if t383 = true then ((spec_l1In.f ((rd_T72 l0 0).f3) 0 65535).bind fun t384 => (spec_l6Fault_in.j0 k l0 (!t384))) else (spec_l6Fault_in.j0 k l0 true))) else (spec_l6Fault_in.j0 k l0 true))) = some r := by rw [if_pos rfl] at H; exact H
      clear H; have H := H1; clear H1
      obtain ⟨t382, A60, H⟩ := bO H
      replace H : (if t382 = true then ((spec_l1Bits.f ((rd_T72 l0 0).f2)).bind fun t383 => (if t383 = true then ((spec_l1In.f ((rd_T72 l0 0).f3) 0 65535).bind fun t384 => (spec_l6Fault_in.j0 k l0 (!t384))) else (spec_l6Fault_in.j0 k l0 true))) else (spec_l6Fault_in.j0 k l0 true)) = some r := H
      have A6 := am A60; clear A60
      by_cases c7 : t382 = true
      · subst c7
        have H1 : ((spec_l1Bits.f ((rd_T72 l0 0).f2)).bind fun t383 => (if t383 = true then ((spec_l1In.f ((rd_T72 l0 0).f3) 0 65535).bind fun t384 => (spec_l6Fault_in.j0 k l0 (!t384))) else (spec_l6Fault_in.j0 k l0 true))) = some r := by rw [if_pos rfl] at H; exact H
        clear H; have H := H1; clear H1
        obtain ⟨t383, A80, H⟩ := bO H
        replace H : (if t383 = true then ((spec_l1In.f ((rd_T72 l0 0).f3) 0 65535).bind fun t384 => (spec_l6Fault_in.j0 k l0 (!t384))) else (spec_l6Fault_in.j0 k l0 true)) = some r := H
        have A8 := am A80; clear A80
        by_cases c9 : t383 = true
        · subst c9
          have H1 : ((spec_l1In.f ((rd_T72 l0 0).f3) 0 65535).bind fun t384 => (spec_l6Fault_in.j0 k l0 (!t384))) = some r := by rw [if_pos rfl] at H; exact H
          clear H; have H := H1; clear H1
          obtain ⟨t384, A100, H⟩ := bO H
          replace H : (spec_l6Fault_in.j0 k l0 (!t384)) = some r := H
          have A10 := am A100; clear A100
          have H' := am H
          clear H
          have p380 : 0 ≤ (0 : Int) := (by omega)
          have q380 : 0 < (l0.length : Int) := pD
          obtain ⟨ad380, A380_4, c380_4, e380, hx380_0, hx380_1, hx380_2, hx380_3, hx380_4, hl380_4, hi380_4⟩ := at_T72 HR0.out 0 p380 q380
          cases e380
          have qi380 : (0 < l0.length) = True := eq_true (by omega)
          (try rw [z0, zm, az] at hx380_0); (try rw [z0, zm, az] at hx380_1); (try rw [z0, zm, az] at hx380_2); (try rw [z0, zm, az] at hx380_3); (try rw [z0, zm, az] at hx380_4); replace hx380_0 := cb HB hx380_0; replace hx380_1 := cb HB hx380_1; replace hx380_2 := cb HB hx380_2; replace hx380_3 := cb HB hx380_3; replace hx380_4 := cb HB hx380_4; have HR380_4 := am hi380_4; have HC380_4 := am hl380_4; clear hi380_4 hl380_4; replace p380 := eq_true p380; replace q380 := eq_true q380
          go_wp2_with (first | ((with_reducible refine gC (f := 130) rfl ?_); refine goesL_ (some 9) rfl rfl Try.func130 (by kernel_rfl) rfl #[.int .i64 ((rd_T72 l0 0).f0)] rfl pA ?_; (with_reducible refine (spec_l4Sum.calls ((rd_T72 l0 0).f0) true _ A4.out).mono ?_); rintro e w' ⟨rfl, ⟨nd, rfl⟩⟩; refine ⟨_, rfl, ?_⟩) | (go_at_call 81; (with_reducible refine (spec_l1In.calls ((rd_T72 l0 0).f1) 1 99999 true _ A6.out).mono ?_); rintro e w' ⟨rfl, ⟨nd, rfl⟩⟩) | (go_at_call 131; (with_reducible refine (spec_l1Bits.calls ((rd_T72 l0 0).f2) true _ A8.out).mono ?_); rintro e w' ⟨rfl, ⟨nd, rfl⟩⟩) | (go_at_call 81; (with_reducible refine (spec_l1In.calls ((rd_T72 l0 0).f3) 0 65535 t384 _ A10.out).mono ?_); rintro e w' ⟨rfl, ⟨nd, rfl⟩⟩))
          go_meet
          case rel => exact ⟨_, (!t384), pF, H', ⟨by first | omega | exact Nat.le_refl _⟩, ⟨pB⟩⟩
        · replace c9 := Bool.eq_false_iff.mpr c9
          subst c9
          have H1 : (spec_l6Fault_in.j0 k l0 true) = some r := by rw [if_neg (show ¬ (false = true) by decide)] at H; exact H
          clear H; have H := H1; clear H1
          have H' := am H
          clear H
          have p380 : 0 ≤ (0 : Int) := (by omega)
          have q380 : 0 < (l0.length : Int) := pD
          obtain ⟨ad380, A380_4, c380_4, e380, hx380_0, hx380_1, hx380_2, hx380_3, hx380_4, hl380_4, hi380_4⟩ := at_T72 HR0.out 0 p380 q380
          cases e380
          have qi380 : (0 < l0.length) = True := eq_true (by omega)
          (try rw [z0, zm, az] at hx380_0); (try rw [z0, zm, az] at hx380_1); (try rw [z0, zm, az] at hx380_2); (try rw [z0, zm, az] at hx380_3); (try rw [z0, zm, az] at hx380_4); replace hx380_0 := cb HB hx380_0; replace hx380_1 := cb HB hx380_1; replace hx380_2 := cb HB hx380_2; replace hx380_3 := cb HB hx380_3; replace hx380_4 := cb HB hx380_4; have HR380_4 := am hi380_4; have HC380_4 := am hl380_4; clear hi380_4 hl380_4; replace p380 := eq_true p380; replace q380 := eq_true q380
          go_wp2_with (first | ((with_reducible refine gC (f := 130) rfl ?_); refine goesL_ (some 9) rfl rfl Try.func130 (by kernel_rfl) rfl #[.int .i64 ((rd_T72 l0 0).f0)] rfl pA ?_; (with_reducible refine (spec_l4Sum.calls ((rd_T72 l0 0).f0) true _ A4.out).mono ?_); rintro e w' ⟨rfl, ⟨nd, rfl⟩⟩; refine ⟨_, rfl, ?_⟩) | (go_at_call 81; (with_reducible refine (spec_l1In.calls ((rd_T72 l0 0).f1) 1 99999 true _ A6.out).mono ?_); rintro e w' ⟨rfl, ⟨nd, rfl⟩⟩) | (go_at_call 131; (with_reducible refine (spec_l1Bits.calls ((rd_T72 l0 0).f2) false _ A8.out).mono ?_); rintro e w' ⟨rfl, ⟨nd, rfl⟩⟩))
          go_meet
          case rel => exact ⟨_, (true), pF, H', ⟨by first | omega | exact Nat.le_refl _⟩, ⟨pB⟩⟩
      · replace c7 := Bool.eq_false_iff.mpr c7
        subst c7
        have H1 : (spec_l6Fault_in.j0 k l0 true) = some r := by rw [if_neg (show ¬ (false = true) by decide)] at H; exact H
        clear H; have H := H1; clear H1
        have H' := am H
        clear H
        have p380 : 0 ≤ (0 : Int) := (by omega)
        have q380 : 0 < (l0.length : Int) := pD
        obtain ⟨ad380, A380_4, c380_4, e380, hx380_0, hx380_1, hx380_2, hx380_3, hx380_4, hl380_4, hi380_4⟩ := at_T72 HR0.out 0 p380 q380
        cases e380
        have qi380 : (0 < l0.length) = True := eq_true (by omega)
        (try rw [z0, zm, az] at hx380_0); (try rw [z0, zm, az] at hx380_1); (try rw [z0, zm, az] at hx380_2); (try rw [z0, zm, az] at hx380_3); (try rw [z0, zm, az] at hx380_4); replace hx380_0 := cb HB hx380_0; replace hx380_1 := cb HB hx380_1; replace hx380_2 := cb HB hx380_2; replace hx380_3 := cb HB hx380_3; replace hx380_4 := cb HB hx380_4; have HR380_4 := am hi380_4; have HC380_4 := am hl380_4; clear hi380_4 hl380_4; replace p380 := eq_true p380; replace q380 := eq_true q380
        go_wp2_with (first | ((with_reducible refine gC (f := 130) rfl ?_); refine goesL_ (some 9) rfl rfl Try.func130 (by kernel_rfl) rfl #[.int .i64 ((rd_T72 l0 0).f0)] rfl pA ?_; (with_reducible refine (spec_l4Sum.calls ((rd_T72 l0 0).f0) true _ A4.out).mono ?_); rintro e w' ⟨rfl, ⟨nd, rfl⟩⟩; refine ⟨_, rfl, ?_⟩) | (go_at_call 81; (with_reducible refine (spec_l1In.calls ((rd_T72 l0 0).f1) 1 99999 false _ A6.out).mono ?_); rintro e w' ⟨rfl, ⟨nd, rfl⟩⟩))
        go_meet
        case rel => exact ⟨_, (true), pF, H', ⟨by first | omega | exact Nat.le_refl _⟩, ⟨pB⟩⟩
    · replace c5 := Bool.eq_false_iff.mpr c5
      subst c5
      have H1 : (spec_l6Fault_in.j0 k l0 true) = some r := by rw [if_neg (show ¬ (false = true) by decide)] at H; exact H
      clear H; have H := H1; clear H1
      have H' := am H
      clear H
      have p380 : 0 ≤ (0 : Int) := (by omega)
      have q380 : 0 < (l0.length : Int) := pD
      obtain ⟨ad380, A380_4, c380_4, e380, hx380_0, hx380_1, hx380_2, hx380_3, hx380_4, hl380_4, hi380_4⟩ := at_T72 HR0.out 0 p380 q380
      cases e380
      have qi380 : (0 < l0.length) = True := eq_true (by omega)
      (try rw [z0, zm, az] at hx380_0); (try rw [z0, zm, az] at hx380_1); (try rw [z0, zm, az] at hx380_2); (try rw [z0, zm, az] at hx380_3); (try rw [z0, zm, az] at hx380_4); replace hx380_0 := cb HB hx380_0; replace hx380_1 := cb HB hx380_1; replace hx380_2 := cb HB hx380_2; replace hx380_3 := cb HB hx380_3; replace hx380_4 := cb HB hx380_4; have HR380_4 := am hi380_4; have HC380_4 := am hl380_4; clear hi380_4 hl380_4; replace p380 := eq_true p380; replace q380 := eq_true q380
      go_wp2_with (first | ((with_reducible refine gC (f := 130) rfl ?_); refine goesL_ (some 9) rfl rfl Try.func130 (by kernel_rfl) rfl #[.int .i64 ((rd_T72 l0 0).f0)] rfl pA ?_; (with_reducible refine (spec_l4Sum.calls ((rd_T72 l0 0).f0) false _ A4.out).mono ?_); rintro e w' ⟨rfl, ⟨nd, rfl⟩⟩; refine ⟨_, rfl, ?_⟩))
      go_meet
      case rel => exact ⟨_, (true), pF, H', ⟨by first | omega | exact Nat.le_refl _⟩, ⟨pB⟩⟩
  · rw [if_neg c3] at H
    exact absurd H (by simp)
 case rest =>
  clear HC2
  obtain ⟨kq, x34_1, rfl, HA, HJ1, HB⟩ := hcut
  cases kq with
  | zero => exact absurd HA.out (by simp [spec_l6Fault_in.j0])
  | succ kj1 =>
   have H := HA.out
   clear HA
   simp only [spec_l6Fault_in.j0] at H
   by_cases c11 : x34_1 = true
   · subst c11
     have H1 : (some 3) = some r := by rw [if_pos rfl] at H; exact H
     clear H; have H := H1; clear H1
     obtain rfl := sj H
     go_wp2
     go_ret
     exact ⟨pE, pB⟩
   · replace c11 := Bool.eq_false_iff.mpr c11
     subst c11
     have H1 : (if 0 < (l0.length : Int) then (if (((rd_T72 l0 0).f4).length : Int) < 1 then (spec_l6Fault_in.j1 kj1 l0 true) else (spec_l6Fault_in.j1 kj1 l0 (decide ((((rd_T72 l0 0).f4).length : Int) > 4)))) else (none)) = some r := by rw [if_neg (show ¬ (false = true) by decide)] at H; exact H
     clear H; have H := H1; clear H1; have HC12 := am H; clear H
     go_upto_region 3 with (fail)
     go_cut [48] (fun v48 wc => ∃ (kq : Nat) (x48_11 : Bool), v48 = .bool x48_11 ∧ Aside0 (spec_l6Fault_in.j1 kq l0 x48_11 = some r) ∧ Aside0 (kq ≤ kj1) ∧ Aside0 (Below w.heap.size w wc))
     case first =>
      have H := HC12.out
      clear HC12
      by_cases c13 : 0 < (l0.length : Int)
      · rw [if_pos c13] at H
        have c13b0 : decide (0 < (l0.length : Int)) = true := dt c13
        have c13b1 : decide (0 < l0.length) = true := dt (by omega)
        clear c13
        (first | rw [c13b0] | (simp only [i64_w, i32_w]; rw [c13b0]) | skip)
        by_cases c14 : (((rd_T72 l0 0).f4).length : Int) < 1
        · rw [if_pos c14] at H
          have c14b0 : decide ((((rd_T72 l0 0).f4).length : Int) < 1) = true := dt c14
          have c14b1 : decide (((rd_T72 l0 0).f4).length < 1) = true := dt (by omega)
          clear c14
          have H' := am H
          clear H
          have p385 : 0 ≤ (0 : Int) := (by omega)
          have q385 : 0 < (l0.length : Int) := pD
          obtain ⟨ad385, A385_4, c385_4, e385, hx385_0, hx385_1, hx385_2, hx385_3, hx385_4, hl385_4, hi385_4⟩ := at_T72 HR0.out 0 p385 q385
          cases e385
          have qi385 : (0 < l0.length) = True := eq_true (by omega)
          (try rw [z0, zm, az] at hx385_0); (try rw [z0, zm, az] at hx385_1); (try rw [z0, zm, az] at hx385_2); (try rw [z0, zm, az] at hx385_3); (try rw [z0, zm, az] at hx385_4); replace hx385_0 := cb HB hx385_0; replace hx385_1 := cb HB hx385_1; replace hx385_2 := cb HB hx385_2; replace hx385_3 := cb HB hx385_3; replace hx385_4 := cb HB hx385_4; have HR385_4 := am hi385_4; have HC385_4 := am hl385_4; clear hi385_4 hl385_4; replace p385 := eq_true p385; replace q385 := eq_true q385
          go_wp2
          go_meet
          case rel => exact ⟨_, (true), pF, H', ⟨by have := HJ1.out; first | omega | exact Nat.le_refl _⟩, ⟨pB⟩⟩
        · rw [if_neg c14] at H
          have c14b0 : decide ((((rd_T72 l0 0).f4).length : Int) < 1) = false := decide_eq_false c14
          have c14b1 : decide (((rd_T72 l0 0).f4).length < 1) = false := decide_eq_false (by omega)
          clear c14
          have H' := am H
          clear H
          have p385 : 0 ≤ (0 : Int) := (by omega)
          have q385 : 0 < (l0.length : Int) := pD
          obtain ⟨ad385, A385_4, c385_4, e385, hx385_0, hx385_1, hx385_2, hx385_3, hx385_4, hl385_4, hi385_4⟩ := at_T72 HR0.out 0 p385 q385
          cases e385
          have qi385 : (0 < l0.length) = True := eq_true (by omega)
          (try rw [z0, zm, az] at hx385_0); (try rw [z0, zm, az] at hx385_1); (try rw [z0, zm, az] at hx385_2); (try rw [z0, zm, az] at hx385_3); (try rw [z0, zm, az] at hx385_4); replace hx385_0 := cb HB hx385_0; replace hx385_1 := cb HB hx385_1; replace hx385_2 := cb HB hx385_2; replace hx385_3 := cb HB hx385_3; replace hx385_4 := cb HB hx385_4; have HR385_4 := am hi385_4; have HC385_4 := am hl385_4; clear hi385_4 hl385_4; replace p385 := eq_true p385; replace q385 := eq_true q385
          go_wp2
          go_meet
          case rel => exact ⟨_, (decide ((((rd_T72 l0 0).f4).length : Int) > 4)), pF, H', ⟨by have := HJ1.out; first | omega | exact Nat.le_refl _⟩, ⟨pB⟩⟩
      · rw [if_neg c13] at H
        exact absurd H (by simp)
     case rest =>
      clear HC12; (try clear c11)
      obtain ⟨kq, x48_11, rfl, HA, HJ11, HB⟩ := hcut
      cases kq with
      | zero => exact absurd HA.out (by simp [spec_l6Fault_in.j1])
      | succ kj11 =>
       have H := HA.out
       clear HA
       simp only [spec_l6Fault_in.j1] at H
       by_cases c15 : x48_11 = true
       · subst c15
         have H1 : (some 2) = some r := by rw [if_pos rfl] at H; exact H
         clear H; have H := H1; clear H1
         obtain rfl := sj H
         go_wp2
         go_ret
         exact ⟨pE, pB⟩
       · replace c15 := Bool.eq_false_iff.mpr c15
         subst c15
         have H1 : (spec_l6Fault_in.l0 kj11 l0 0) = some r := by rw [if_neg (show ¬ (false = true) by decide)] at H; exact H
         clear H; have H := H1; clear H1
         have H' := am H
         clear H
         go_wp2
         go_loopg [3] kj11 (fun kq v3 w' => ∃ (x3_3 : Int), v3 = .int .i64 x3_3 ∧ Aside0 (spec_l6Fault_in.l0 kq l0 x3_3 = some r) ∧ Aside0 (kq ≤ kj11) ∧ Aside0 (Below w.heap.size w w'))
         case atStart => exact ⟨(0), pF, H', ⟨Nat.le_refl _⟩, ⟨pB⟩⟩
         case round =>
          clear H'
          (try clear c11); (try clear c15)
          obtain ⟨x3_3, rfl, HA, HK3, HB⟩ := hrel
          cases gk with
          | zero => exact absurd HA.out (by simp [spec_l6Fault_in.l0])
          | succ k3 =>
           have H := HA.out
           clear HA
           simp only [spec_l6Fault_in.l0] at H
           by_cases c16 : 0 < (l0.length : Int)
           · rw [if_pos c16] at H
             have c16b0 : decide (0 < (l0.length : Int)) = true := dt c16
             have c16b1 : decide (0 < l0.length) = true := dt (by omega)
             clear c16
             by_cases c17 : x3_3 < (((rd_T72 l0 0).f4).length : Int)
             · rw [if_pos c17] at H
               have c17b0 : decide (x3_3 < (((rd_T72 l0 0).f4).length : Int)) = true := dt c17
               clear c17
               by_cases c18 : 0 ≤ x3_3
               · rw [if_pos c18] at H
                 have c18b0 : decide (0 ≤ x3_3) = true := dt c18
                 clear c18
                 obtain ⟨t389, A190, H⟩ := bO H
                 replace H : (if t389 = 0 then (spec_l6Fault_in.l0 k3 l0 (wrap64 (x3_3 + 1))) else (some t389)) = some r := H
                 have A19 := am A190; clear A190
                 by_cases c20 : t389 = 0
                 · rw [if_pos c20] at H
                   have c20b0 : (t389 == 0) = true := beq_iff_eq.mpr c20
                   have c20b1 : (t389 != 0) = false := bne_eq_false_iff_eq.mpr c20
                   clear c20
                   have H' := am H
                   clear H
                   have p386 : 0 ≤ (0 : Int) := (by omega)
                   have q386 : 0 < (l0.length : Int) := pD
                   obtain ⟨ad386, A386_4, c386_4, e386, hx386_0, hx386_1, hx386_2, hx386_3, hx386_4, hl386_4, hi386_4⟩ := at_T72 HR0.out 0 p386 q386
                   cases e386
                   have qi386 : (0 < l0.length) = True := eq_true (by omega)
                   (try rw [z0, zm, az] at hx386_0); (try rw [z0, zm, az] at hx386_1); (try rw [z0, zm, az] at hx386_2); (try rw [z0, zm, az] at hx386_3); (try rw [z0, zm, az] at hx386_4); replace hx386_0 := cb HB hx386_0; replace hx386_1 := cb HB hx386_1; replace hx386_2 := cb HB hx386_2; replace hx386_3 := cb HB hx386_3; replace hx386_4 := cb HB hx386_4; have HR386_4 := am hi386_4; have HC386_4 := am hl386_4; clear hi386_4 hl386_4; replace p386 := eq_true p386; replace q386 := eq_true q386
                   have p387 : 0 ≤ (0 : Int) := (by omega)
                   have q387 : 0 < (l0.length : Int) := pD
                   (try clear hx386_0); (try clear hx386_1); (try clear hx386_2); (try clear hx386_3); (try clear hHeld)
                   obtain ⟨ad387, A387_4, c387_4, e387, hx387_0, hx387_1, hx387_2, hx387_3, hx387_4, hl387_4, hi387_4⟩ := at_T72 HR0.out 0 p387 q387
                   obtain rfl : ad386 = ad387 := (by injection e387)
                   have qi387 : (0 < l0.length) = True := eq_true (by omega)
                   (try rw [z0, zm, az] at hx387_0); (try rw [z0, zm, az] at hx387_1); (try rw [z0, zm, az] at hx387_2); (try rw [z0, zm, az] at hx387_3); (try rw [z0, zm, az] at hx387_4); replace hx387_0 := cb HB hx387_0; replace hx387_1 := cb HB hx387_1; replace hx387_2 := cb HB hx387_2; replace hx387_3 := cb HB hx387_3; replace hx387_4 := cb HB hx387_4; have HR387_4 := am hi387_4; have HC387_4 := am hl387_4; clear hi387_4 hl387_4; replace p387 := eq_true p387; replace q387 := eq_true q387
                   have ea_ := sj (hx386_4.symm.trans hx387_4)
                   injection ea_ with ea_ en_ ec_
                   subst ea_; subst ec_; clear en_
                   have p388 : 0 ≤ (x3_3 : Int) := pD
                   have q388 : x3_3 < (((rd_T72 l0 0).f4).length : Int) := pD
                   obtain ⟨ad388, A388_1, c388_1, A388_2, c388_2, e388, hx388_0, hx388_1, hx388_2, hl388_1, hi388_1, hl388_2, hi388_2⟩ := at_T27 HR387_4.out x3_3 p388 q388
                   cases e388; replace hx388_0 := cb HB hx388_0; replace hx388_1 := cb HB hx388_1; replace hx388_2 := cb HB hx388_2; have HR388_1 := am hi388_1; have HC388_1 := am hl388_1; clear hi388_1 hl388_1; have HR388_2 := am hi388_2; have HC388_2 := am hl388_2; clear hi388_2 hl388_2; replace p388 := eq_true p388; replace q388 := eq_true q388
                   go_wp2_with (first | ((with_reducible refine gC (f := 53) rfl ?_); refine goesL_ (some 64) rfl rfl Try.func53 (by kernel_rfl) rfl #[.pointer (some _)] rfl pA ?_; (refine Calls.mono (spec_l3Fault.calls k3 ((rd_T27 ((rd_T72 l0 0).f4) x3_3).f0) _ _ ((rd_T27 ((rd_T72 l0 0).f4) x3_3).f1) _ _ ((rd_T27 ((rd_T72 l0 0).f4) x3_3).f2) t389 _ ?side1 ?side2 ?side3 ?side4 A19.out (hpp0_0 := by first | (with_unfolding_all assumption) | (dsimp only; assumption) | (dsimp only [Nat.zero_add]; exact (blk_cell (Aside0.out (by assumption)) _).trans rfl) | (go_simp; done)) (hpp0_1 := by first | (with_unfolding_all assumption) | (dsimp only; assumption) | (dsimp only [Nat.zero_add]; exact (blk_cell (Aside0.out (by assumption)) _).trans rfl) | (go_simp; done)) (hpp0_2 := by first | (with_unfolding_all assumption) | (dsimp only; assumption) | (dsimp only [Nat.zero_add]; exact (blk_cell (Aside0.out (by assumption)) _).trans rfl) | (go_simp; done))) ?_); (case side1 => exact pC (Kd.C_below HR388_1.out HB.out)); (case side2 => exact HC388_1.out); (case side3 => exact pC (Kd.C_below HR388_2.out HB.out)); (case side4 => exact HC388_2.out); rintro e w21 ⟨rfl, hb⟩; refine ⟨_, rfl, ?_⟩; have n_ := am (bz_ pB hb); clear HB; have HB := n_; clear n_; (try clear hb)))
                   go_roundg k3
                   case measure => have := HJ1.out; have := HJ11.out; have := HK3.out; omega
                   case rel => exact ⟨(wrap64 (x3_3 + 1)), pF, H', ⟨by have := HJ1.out; have := HJ11.out; have := HK3.out; omega⟩, ⟨pB⟩⟩
                 · rw [if_neg c20] at H
                   have c20b0 : (t389 == 0) = false := beq_eq_false_iff_ne.mpr c20
                   have c20b1 : (t389 != 0) = true := bne_iff_ne.mpr c20
                   obtain rfl := sj H
                   have p386 : 0 ≤ (0 : Int) := (by omega)
                   have q386 : 0 < (l0.length : Int) := pD
                   obtain ⟨ad386, A386_4, c386_4, e386, hx386_0, hx386_1, hx386_2, hx386_3, hx386_4, hl386_4, hi386_4⟩ := at_T72 HR0.out 0 p386 q386
                   cases e386
                   have qi386 : (0 < l0.length) = True := eq_true (by omega)
                   (try rw [z0, zm, az] at hx386_0); (try rw [z0, zm, az] at hx386_1); (try rw [z0, zm, az] at hx386_2); (try rw [z0, zm, az] at hx386_3); (try rw [z0, zm, az] at hx386_4); replace hx386_0 := cb HB hx386_0; replace hx386_1 := cb HB hx386_1; replace hx386_2 := cb HB hx386_2; replace hx386_3 := cb HB hx386_3; replace hx386_4 := cb HB hx386_4; have HR386_4 := am hi386_4; have HC386_4 := am hl386_4; clear hi386_4 hl386_4; replace p386 := eq_true p386; replace q386 := eq_true q386
                   have p387 : 0 ≤ (0 : Int) := (by omega)
                   have q387 : 0 < (l0.length : Int) := pD
                   (try clear hx386_0); (try clear hx386_1); (try clear hx386_2); (try clear hx386_3); (try clear hHeld)
                   obtain ⟨ad387, A387_4, c387_4, e387, hx387_0, hx387_1, hx387_2, hx387_3, hx387_4, hl387_4, hi387_4⟩ := at_T72 HR0.out 0 p387 q387
                   obtain rfl : ad386 = ad387 := (by injection e387)
                   have qi387 : (0 < l0.length) = True := eq_true (by omega)
                   (try rw [z0, zm, az] at hx387_0); (try rw [z0, zm, az] at hx387_1); (try rw [z0, zm, az] at hx387_2); (try rw [z0, zm, az] at hx387_3); (try rw [z0, zm, az] at hx387_4); replace hx387_0 := cb HB hx387_0; replace hx387_1 := cb HB hx387_1; replace hx387_2 := cb HB hx387_2; replace hx387_3 := cb HB hx387_3; replace hx387_4 := cb HB hx387_4; have HR387_4 := am hi387_4; have HC387_4 := am hl387_4; clear hi387_4 hl387_4; replace p387 := eq_true p387; replace q387 := eq_true q387
                   have ea_ := sj (hx386_4.symm.trans hx387_4)
                   injection ea_ with ea_ en_ ec_
                   subst ea_; subst ec_; clear en_
                   have p388 : 0 ≤ (x3_3 : Int) := pD
                   have q388 : x3_3 < (((rd_T72 l0 0).f4).length : Int) := pD
                   obtain ⟨ad388, A388_1, c388_1, A388_2, c388_2, e388, hx388_0, hx388_1, hx388_2, hl388_1, hi388_1, hl388_2, hi388_2⟩ := at_T27 HR387_4.out x3_3 p388 q388
                   cases e388; replace hx388_0 := cb HB hx388_0; replace hx388_1 := cb HB hx388_1; replace hx388_2 := cb HB hx388_2; have HR388_1 := am hi388_1; have HC388_1 := am hl388_1; clear hi388_1 hl388_1; have HR388_2 := am hi388_2; have HC388_2 := am hl388_2; clear hi388_2 hl388_2; replace p388 := eq_true p388; replace q388 := eq_true q388
                   go_wp2_with (first | ((with_reducible refine gC (f := 53) rfl ?_); refine goesL_ (some 64) rfl rfl Try.func53 (by kernel_rfl) rfl #[.pointer (some _)] rfl pA ?_; (refine Calls.mono (spec_l3Fault.calls k3 ((rd_T27 ((rd_T72 l0 0).f4) x3_3).f0) _ _ ((rd_T27 ((rd_T72 l0 0).f4) x3_3).f1) _ _ ((rd_T27 ((rd_T72 l0 0).f4) x3_3).f2) t389 _ ?side1 ?side2 ?side3 ?side4 A19.out (hpp0_0 := by first | (with_unfolding_all assumption) | (dsimp only; assumption) | (dsimp only [Nat.zero_add]; exact (blk_cell (Aside0.out (by assumption)) _).trans rfl) | (go_simp; done)) (hpp0_1 := by first | (with_unfolding_all assumption) | (dsimp only; assumption) | (dsimp only [Nat.zero_add]; exact (blk_cell (Aside0.out (by assumption)) _).trans rfl) | (go_simp; done)) (hpp0_2 := by first | (with_unfolding_all assumption) | (dsimp only; assumption) | (dsimp only [Nat.zero_add]; exact (blk_cell (Aside0.out (by assumption)) _).trans rfl) | (go_simp; done))) ?_); (case side1 => exact pC (Kd.C_below HR388_1.out HB.out)); (case side2 => exact HC388_1.out); (case side3 => exact pC (Kd.C_below HR388_2.out HB.out)); (case side4 => exact HC388_2.out); rintro e w22 ⟨rfl, hb⟩; refine ⟨_, rfl, ?_⟩; have n_ := am (bz_ pB hb); clear HB; have HB := n_; clear n_; (try clear hb)))
                   go_ret
                   exact ⟨pE, pB⟩
               · rw [if_neg c18] at H
                 exact absurd H (by simp)
             · rw [if_neg c17] at H
               have c17b0 : decide (x3_3 < (((rd_T72 l0 0).f4).length : Int)) = false := decide_eq_false c17
               clear c17
               obtain ⟨t391, A230, H⟩ := bO H
               replace H : (if t391 = true then ((spec_l6Sums.f k3 ((rd_T72 l0 0).f0) ((rd_T72 l0 0).f1) ((rd_T72 l0 0).f2) ((rd_T72 l0 0).f3) ((rd_T72 l0 0).f4)).bind fun t393 => ((spec_l4Twin.f k3 t393).bind fun t396 => (if t396 = true then (some 6) else (some 0)))) else (some 1)) = some r := H
               have A23 := am A230; clear A230
               by_cases c24 : t391 = true
               · subst c24
                 have H1 : ((spec_l6Sums.f k3 ((rd_T72 l0 0).f0) ((rd_T72 l0 0).f1) ((rd_T72 l0 0).f2) ((rd_T72 l0 0).f3) ((rd_T72 l0 0).f4)).bind fun t393 => ((spec_l4Twin.f k3 t393).bind fun t396 => (if t396 = true then (some 6) else (some 0)))) = some r := by rw [if_pos rfl] at H; exact H
                 clear H; have H := H1; clear H1
                 obtain ⟨t393, A250, H⟩ := bO H
                 replace H : ((spec_l4Twin.f k3 t393).bind fun t396 => (if t396 = true then (some 6) else (some 0))) = some r := H
                 have A25 := am A250; clear A250
                 obtain ⟨t396, A260, H⟩ := bO H
                 replace H : (if t396 = true then (some 6) else (some 0)) = some r := H
                 have A26 := am A260; clear A260
                 by_cases c27 : t396 = true
                 · subst c27
                   have H1 : (some 6) = some r := by rw [if_pos rfl] at H; exact H
                   clear H; have H := H1; clear H1
                   obtain rfl := sj H
                   have p386 : 0 ≤ (0 : Int) := (by omega)
                   have q386 : 0 < (l0.length : Int) := pD
                   obtain ⟨ad386, A386_4, c386_4, e386, hx386_0, hx386_1, hx386_2, hx386_3, hx386_4, hl386_4, hi386_4⟩ := at_T72 HR0.out 0 p386 q386
                   cases e386
                   have qi386 : (0 < l0.length) = True := eq_true (by omega)
                   (try rw [z0, zm, az] at hx386_0); (try rw [z0, zm, az] at hx386_1); (try rw [z0, zm, az] at hx386_2); (try rw [z0, zm, az] at hx386_3); (try rw [z0, zm, az] at hx386_4); replace hx386_0 := cb HB hx386_0; replace hx386_1 := cb HB hx386_1; replace hx386_2 := cb HB hx386_2; replace hx386_3 := cb HB hx386_3; replace hx386_4 := cb HB hx386_4; have HR386_4 := am hi386_4; have HC386_4 := am hl386_4; clear hi386_4 hl386_4; replace p386 := eq_true p386; replace q386 := eq_true q386
                   have p390 : 0 ≤ (0 : Int) := (by omega)
                   have q390 : 0 < (l0.length : Int) := pD
                   (try clear hx386_0); (try clear hx386_1); (try clear hx386_2); (try clear hx386_3); (try clear hHeld)
                   obtain ⟨ad390, A390_4, c390_4, e390, hx390_0, hx390_1, hx390_2, hx390_3, hx390_4, hl390_4, hi390_4⟩ := at_T72 HR0.out 0 p390 q390
                   obtain rfl : ad386 = ad390 := (by injection e390)
                   have qi390 : (0 < l0.length) = True := eq_true (by omega)
                   (try rw [z0, zm, az] at hx390_0); (try rw [z0, zm, az] at hx390_1); (try rw [z0, zm, az] at hx390_2); (try rw [z0, zm, az] at hx390_3); (try rw [z0, zm, az] at hx390_4); replace hx390_0 := cb HB hx390_0; replace hx390_1 := cb HB hx390_1; replace hx390_2 := cb HB hx390_2; replace hx390_3 := cb HB hx390_3; replace hx390_4 := cb HB hx390_4; have HR390_4 := am hi390_4; have HC390_4 := am hl390_4; clear hi390_4 hl390_4; replace p390 := eq_true p390; replace q390 := eq_true q390
                   have ea_ := sj (hx386_4.symm.trans hx390_4)
                   injection ea_ with ea_ en_ ec_
                   subst ea_; subst ec_; clear en_
                   go_wp2_with (first | ((with_reducible refine gC (f := 132) rfl ?_); refine goesL_ (some 69) rfl rfl Try.func132 (by kernel_rfl) rfl #[.pointer (some _)] rfl pA ?_; (refine Calls.mono (spec_l6Bases.calls k3 ((rd_T72 l0 0).f0) ((rd_T72 l0 0).f1) ((rd_T72 l0 0).f2) ((rd_T72 l0 0).f3) _ _ ((rd_T72 l0 0).f4) true _ ?side1 ?side2 A23.out (hpp0_0 := by first | (with_unfolding_all assumption) | (dsimp only; assumption) | (dsimp only [Nat.zero_add]; exact (blk_cell (Aside0.out (by assumption)) _).trans rfl) | (go_simp; done)) (hpp0_1 := by first | (with_unfolding_all assumption) | (dsimp only; assumption) | (dsimp only [Nat.zero_add]; exact (blk_cell (Aside0.out (by assumption)) _).trans rfl) | (go_simp; done)) (hpp0_2 := by first | (with_unfolding_all assumption) | (dsimp only; assumption) | (dsimp only [Nat.zero_add]; exact (blk_cell (Aside0.out (by assumption)) _).trans rfl) | (go_simp; done)) (hpp0_3 := by first | (with_unfolding_all assumption) | (dsimp only; assumption) | (dsimp only [Nat.zero_add]; exact (blk_cell (Aside0.out (by assumption)) _).trans rfl) | (go_simp; done)) (hpp0_4 := by first | (with_unfolding_all assumption) | (dsimp only; assumption) | (dsimp only [Nat.zero_add]; exact (blk_cell (Aside0.out (by assumption)) _).trans rfl) | (go_simp; done))) ?_); (case side1 => exact pC (Kd.C_below HR390_4.out HB.out)); (case side2 => exact HC390_4.out); rintro e w28 ⟨rfl, hb⟩; refine ⟨_, rfl, ?_⟩; have n_ := am (bz_ pB hb); clear HB; have HB := n_; clear n_; (try clear hb); have p392 : 0 ≤ (0 : Int) := (by omega); have q392 : 0 < (l0.length : Int) := pD; obtain ⟨ad392, A392_4, c392_4, e392, hx392_0, hx392_1, hx392_2, hx392_3, hx392_4, hl392_4, hi392_4⟩ := at_T72 HR0.out 0 p392 q392; obtain rfl : ad386 = ad392 := (by injection e392); have qi392 : (0 < l0.length) = True := eq_true (by omega); (try rw [show ((0 : Int)).toNat = 0 from rfl] at hx392_0); (try rw [show 0 * 5 = 0 from rfl] at hx392_0); (try rw [Addr.add_zero'] at hx392_0); (try rw [show ((0 : Int)).toNat = 0 from rfl] at hx392_1); (try rw [show 0 * 5 = 0 from rfl] at hx392_1); (try rw [Addr.add_zero'] at hx392_1); (try rw [show ((0 : Int)).toNat = 0 from rfl] at hx392_2); (try rw [show 0 * 5 = 0 from rfl] at hx392_2); (try rw [Addr.add_zero'] at hx392_2); (try rw [show ((0 : Int)).toNat = 0 from rfl] at hx392_3); (try rw [show 0 * 5 = 0 from rfl] at hx392_3); (try rw [Addr.add_zero'] at hx392_3); (try rw [show ((0 : Int)).toNat = 0 from rfl] at hx392_4); (try rw [show 0 * 5 = 0 from rfl] at hx392_4); (try rw [Addr.add_zero'] at hx392_4); replace hx392_0 := cb HB hx392_0; replace hx392_1 := cb HB hx392_1; replace hx392_2 := cb HB hx392_2; replace hx392_3 := cb HB hx392_3; replace hx392_4 := cb HB hx392_4; have HR392_4 := am hi392_4; have HC392_4 := am hl392_4; clear hi392_4 hl392_4; replace p392 := eq_true p392; replace q392 := eq_true q392) | ((with_reducible refine gC (f := 98) rfl ?_); refine goesL_ (some 72) rfl rfl Try.func98 (by kernel_rfl) rfl #[.pointer (some _)] rfl pA ?_; (refine Calls.mono (spec_l6Sums.calls k3 ((rd_T72 l0 0).f0) ((rd_T72 l0 0).f1) ((rd_T72 l0 0).f2) ((rd_T72 l0 0).f3) _ _ ((rd_T72 l0 0).f4) t393 _ ?side1 ?side2 A25.out (hpp0_0 := by first | (with_unfolding_all assumption) | (dsimp only; assumption) | (dsimp only [Nat.zero_add]; exact (blk_cell (Aside0.out (by assumption)) _).trans rfl) | (go_simp; done)) (hpp0_1 := by first | (with_unfolding_all assumption) | (dsimp only; assumption) | (dsimp only [Nat.zero_add]; exact (blk_cell (Aside0.out (by assumption)) _).trans rfl) | (go_simp; done)) (hpp0_2 := by first | (with_unfolding_all assumption) | (dsimp only; assumption) | (dsimp only [Nat.zero_add]; exact (blk_cell (Aside0.out (by assumption)) _).trans rfl) | (go_simp; done)) (hpp0_3 := by first | (with_unfolding_all assumption) | (dsimp only; assumption) | (dsimp only [Nat.zero_add]; exact (blk_cell (Aside0.out (by assumption)) _).trans rfl) | (go_simp; done)) (hpp0_4 := by first | (with_unfolding_all assumption) | (dsimp only; assumption) | (dsimp only [Nat.zero_add]; exact (blk_cell (Aside0.out (by assumption)) _).trans rfl) | (go_simp; done))) ?_); (case side1 => exact pC (Kd.C_below HR392_4.out HB.out)); (case side2 => exact HC392_4.out); rintro e w29 ⟨v394, rfl, ho0, hb⟩; refine ⟨_, rfl, ?_⟩; have n_ := t2 (rL ho0 (bs_ pB)) (bz_ pB hb); clear HB; obtain ⟨HO395, HB⟩ := n_; (try clear hb); (try clear ho0); obtain ⟨Ao30, co30, eo30⟩ := rS HO395.out; subst eo30) | ((with_reducible refine gC (f := 133) rfl ?_); refine goesL_ (some 73) rfl rfl Try.func133 (by kernel_rfl) rfl #[.slice Ao30 t393.length co30] rfl pA ?_; (with_reducible refine (spec_l4Twin.calls k3 (fun k_ => some k_ = (.slice Ao30 t393.length co30 : Value).ownBlock) _ _ t393 true _ ?side1 A26.out).mono ?_); (case side1 => exact Kd.R_V (Kd.R_tight rfl (HO395.out))); rintro e w31 ⟨rfl, hb⟩; refine ⟨_, rfl, ?_⟩; have n_ := t2 (Kd.R_below (pR HO395) hb) (bz_ pB hb); clear HO395 HB; obtain ⟨HO395, HB⟩ := n_; (try clear hb)))
                   go_ret
                   exact ⟨pE, pB⟩
                 · replace c27 := Bool.eq_false_iff.mpr c27
                   subst c27
                   have H1 : (some 0) = some r := by rw [if_neg (show ¬ (false = true) by decide)] at H; exact H
                   clear H; have H := H1; clear H1
                   obtain rfl := sj H
                   have p386 : 0 ≤ (0 : Int) := (by omega)
                   have q386 : 0 < (l0.length : Int) := pD
                   obtain ⟨ad386, A386_4, c386_4, e386, hx386_0, hx386_1, hx386_2, hx386_3, hx386_4, hl386_4, hi386_4⟩ := at_T72 HR0.out 0 p386 q386
                   cases e386
                   have qi386 : (0 < l0.length) = True := eq_true (by omega)
                   (try rw [z0, zm, az] at hx386_0); (try rw [z0, zm, az] at hx386_1); (try rw [z0, zm, az] at hx386_2); (try rw [z0, zm, az] at hx386_3); (try rw [z0, zm, az] at hx386_4); replace hx386_0 := cb HB hx386_0; replace hx386_1 := cb HB hx386_1; replace hx386_2 := cb HB hx386_2; replace hx386_3 := cb HB hx386_3; replace hx386_4 := cb HB hx386_4; have HR386_4 := am hi386_4; have HC386_4 := am hl386_4; clear hi386_4 hl386_4; replace p386 := eq_true p386; replace q386 := eq_true q386
                   have p390 : 0 ≤ (0 : Int) := (by omega)
                   have q390 : 0 < (l0.length : Int) := pD
                   (try clear hx386_0); (try clear hx386_1); (try clear hx386_2); (try clear hx386_3); (try clear hHeld)
                   obtain ⟨ad390, A390_4, c390_4, e390, hx390_0, hx390_1, hx390_2, hx390_3, hx390_4, hl390_4, hi390_4⟩ := at_T72 HR0.out 0 p390 q390
                   obtain rfl : ad386 = ad390 := (by injection e390)
                   have qi390 : (0 < l0.length) = True := eq_true (by omega)
                   (try rw [z0, zm, az] at hx390_0); (try rw [z0, zm, az] at hx390_1); (try rw [z0, zm, az] at hx390_2); (try rw [z0, zm, az] at hx390_3); (try rw [z0, zm, az] at hx390_4); replace hx390_0 := cb HB hx390_0; replace hx390_1 := cb HB hx390_1; replace hx390_2 := cb HB hx390_2; replace hx390_3 := cb HB hx390_3; replace hx390_4 := cb HB hx390_4; have HR390_4 := am hi390_4; have HC390_4 := am hl390_4; clear hi390_4 hl390_4; replace p390 := eq_true p390; replace q390 := eq_true q390
                   have ea_ := sj (hx386_4.symm.trans hx390_4)
                   injection ea_ with ea_ en_ ec_
                   subst ea_; subst ec_; clear en_
                   go_wp2_with (first | ((with_reducible refine gC (f := 132) rfl ?_); refine goesL_ (some 69) rfl rfl Try.func132 (by kernel_rfl) rfl #[.pointer (some _)] rfl pA ?_; (refine Calls.mono (spec_l6Bases.calls k3 ((rd_T72 l0 0).f0) ((rd_T72 l0 0).f1) ((rd_T72 l0 0).f2) ((rd_T72 l0 0).f3) _ _ ((rd_T72 l0 0).f4) true _ ?side1 ?side2 A23.out (hpp0_0 := by first | (with_unfolding_all assumption) | (dsimp only; assumption) | (dsimp only [Nat.zero_add]; exact (blk_cell (Aside0.out (by assumption)) _).trans rfl) | (go_simp; done)) (hpp0_1 := by first | (with_unfolding_all assumption) | (dsimp only; assumption) | (dsimp only [Nat.zero_add]; exact (blk_cell (Aside0.out (by assumption)) _).trans rfl) | (go_simp; done)) (hpp0_2 := by first | (with_unfolding_all assumption) | (dsimp only; assumption) | (dsimp only [Nat.zero_add]; exact (blk_cell (Aside0.out (by assumption)) _).trans rfl) | (go_simp; done)) (hpp0_3 := by first | (with_unfolding_all assumption) | (dsimp only; assumption) | (dsimp only [Nat.zero_add]; exact (blk_cell (Aside0.out (by assumption)) _).trans rfl) | (go_simp; done)) (hpp0_4 := by first | (with_unfolding_all assumption) | (dsimp only; assumption) | (dsimp only [Nat.zero_add]; exact (blk_cell (Aside0.out (by assumption)) _).trans rfl) | (go_simp; done))) ?_); (case side1 => exact pC (Kd.C_below HR390_4.out HB.out)); (case side2 => exact HC390_4.out); rintro e w32 ⟨rfl, hb⟩; refine ⟨_, rfl, ?_⟩; have n_ := am (bz_ pB hb); clear HB; have HB := n_; clear n_; (try clear hb); have p392 : 0 ≤ (0 : Int) := (by omega); have q392 : 0 < (l0.length : Int) := pD; obtain ⟨ad392, A392_4, c392_4, e392, hx392_0, hx392_1, hx392_2, hx392_3, hx392_4, hl392_4, hi392_4⟩ := at_T72 HR0.out 0 p392 q392; obtain rfl : ad386 = ad392 := (by injection e392); have qi392 : (0 < l0.length) = True := eq_true (by omega); (try rw [show ((0 : Int)).toNat = 0 from rfl] at hx392_0); (try rw [show 0 * 5 = 0 from rfl] at hx392_0); (try rw [Addr.add_zero'] at hx392_0); (try rw [show ((0 : Int)).toNat = 0 from rfl] at hx392_1); (try rw [show 0 * 5 = 0 from rfl] at hx392_1); (try rw [Addr.add_zero'] at hx392_1); (try rw [show ((0 : Int)).toNat = 0 from rfl] at hx392_2); (try rw [show 0 * 5 = 0 from rfl] at hx392_2); (try rw [Addr.add_zero'] at hx392_2); (try rw [show ((0 : Int)).toNat = 0 from rfl] at hx392_3); (try rw [show 0 * 5 = 0 from rfl] at hx392_3); (try rw [Addr.add_zero'] at hx392_3); (try rw [show ((0 : Int)).toNat = 0 from rfl] at hx392_4); (try rw [show 0 * 5 = 0 from rfl] at hx392_4); (try rw [Addr.add_zero'] at hx392_4); replace hx392_0 := cb HB hx392_0; replace hx392_1 := cb HB hx392_1; replace hx392_2 := cb HB hx392_2; replace hx392_3 := cb HB hx392_3; replace hx392_4 := cb HB hx392_4; have HR392_4 := am hi392_4; have HC392_4 := am hl392_4; clear hi392_4 hl392_4; replace p392 := eq_true p392; replace q392 := eq_true q392) | ((with_reducible refine gC (f := 98) rfl ?_); refine goesL_ (some 72) rfl rfl Try.func98 (by kernel_rfl) rfl #[.pointer (some _)] rfl pA ?_; (refine Calls.mono (spec_l6Sums.calls k3 ((rd_T72 l0 0).f0) ((rd_T72 l0 0).f1) ((rd_T72 l0 0).f2) ((rd_T72 l0 0).f3) _ _ ((rd_T72 l0 0).f4) t393 _ ?side1 ?side2 A25.out (hpp0_0 := by first | (with_unfolding_all assumption) | (dsimp only; assumption) | (dsimp only [Nat.zero_add]; exact (blk_cell (Aside0.out (by assumption)) _).trans rfl) | (go_simp; done)) (hpp0_1 := by first | (with_unfolding_all assumption) | (dsimp only; assumption) | (dsimp only [Nat.zero_add]; exact (blk_cell (Aside0.out (by assumption)) _).trans rfl) | (go_simp; done)) (hpp0_2 := by first | (with_unfolding_all assumption) | (dsimp only; assumption) | (dsimp only [Nat.zero_add]; exact (blk_cell (Aside0.out (by assumption)) _).trans rfl) | (go_simp; done)) (hpp0_3 := by first | (with_unfolding_all assumption) | (dsimp only; assumption) | (dsimp only [Nat.zero_add]; exact (blk_cell (Aside0.out (by assumption)) _).trans rfl) | (go_simp; done)) (hpp0_4 := by first | (with_unfolding_all assumption) | (dsimp only; assumption) | (dsimp only [Nat.zero_add]; exact (blk_cell (Aside0.out (by assumption)) _).trans rfl) | (go_simp; done))) ?_); (case side1 => exact pC (Kd.C_below HR392_4.out HB.out)); (case side2 => exact HC392_4.out); rintro e w33 ⟨v394, rfl, ho0, hb⟩; refine ⟨_, rfl, ?_⟩; have n_ := t2 (rL ho0 (bs_ pB)) (bz_ pB hb); clear HB; obtain ⟨HO395, HB⟩ := n_; (try clear hb); (try clear ho0); obtain ⟨Ao34, co34, eo34⟩ := rS HO395.out; subst eo34) | ((with_reducible refine gC (f := 133) rfl ?_); refine goesL_ (some 73) rfl rfl Try.func133 (by kernel_rfl) rfl #[.slice Ao34 t393.length co34] rfl pA ?_; (with_reducible refine (spec_l4Twin.calls k3 (fun k_ => some k_ = (.slice Ao34 t393.length co34 : Value).ownBlock) _ _ t393 false _ ?side1 A26.out).mono ?_); (case side1 => exact Kd.R_V (Kd.R_tight rfl (HO395.out))); rintro e w35 ⟨rfl, hb⟩; refine ⟨_, rfl, ?_⟩; have n_ := t2 (Kd.R_below (pR HO395) hb) (bz_ pB hb); clear HO395 HB; obtain ⟨HO395, HB⟩ := n_; (try clear hb)))
                   go_ret
                   exact ⟨pE, pB⟩
               · replace c24 := Bool.eq_false_iff.mpr c24
                 subst c24
                 have H1 : (some 1) = some r := by rw [if_neg (show ¬ (false = true) by decide)] at H; exact H
                 clear H; have H := H1; clear H1
                 obtain rfl := sj H
                 have p386 : 0 ≤ (0 : Int) := (by omega)
                 have q386 : 0 < (l0.length : Int) := pD
                 obtain ⟨ad386, A386_4, c386_4, e386, hx386_0, hx386_1, hx386_2, hx386_3, hx386_4, hl386_4, hi386_4⟩ := at_T72 HR0.out 0 p386 q386
                 cases e386
                 have qi386 : (0 < l0.length) = True := eq_true (by omega)
                 (try rw [z0, zm, az] at hx386_0); (try rw [z0, zm, az] at hx386_1); (try rw [z0, zm, az] at hx386_2); (try rw [z0, zm, az] at hx386_3); (try rw [z0, zm, az] at hx386_4); replace hx386_0 := cb HB hx386_0; replace hx386_1 := cb HB hx386_1; replace hx386_2 := cb HB hx386_2; replace hx386_3 := cb HB hx386_3; replace hx386_4 := cb HB hx386_4; have HR386_4 := am hi386_4; have HC386_4 := am hl386_4; clear hi386_4 hl386_4; replace p386 := eq_true p386; replace q386 := eq_true q386
                 have p390 : 0 ≤ (0 : Int) := (by omega)
                 have q390 : 0 < (l0.length : Int) := pD
                 (try clear hx386_0); (try clear hx386_1); (try clear hx386_2); (try clear hx386_3); (try clear hHeld)
                 obtain ⟨ad390, A390_4, c390_4, e390, hx390_0, hx390_1, hx390_2, hx390_3, hx390_4, hl390_4, hi390_4⟩ := at_T72 HR0.out 0 p390 q390
                 obtain rfl : ad386 = ad390 := (by injection e390)
                 have qi390 : (0 < l0.length) = True := eq_true (by omega)
                 (try rw [z0, zm, az] at hx390_0); (try rw [z0, zm, az] at hx390_1); (try rw [z0, zm, az] at hx390_2); (try rw [z0, zm, az] at hx390_3); (try rw [z0, zm, az] at hx390_4); replace hx390_0 := cb HB hx390_0; replace hx390_1 := cb HB hx390_1; replace hx390_2 := cb HB hx390_2; replace hx390_3 := cb HB hx390_3; replace hx390_4 := cb HB hx390_4; have HR390_4 := am hi390_4; have HC390_4 := am hl390_4; clear hi390_4 hl390_4; replace p390 := eq_true p390; replace q390 := eq_true q390
                 have ea_ := sj (hx386_4.symm.trans hx390_4)
                 injection ea_ with ea_ en_ ec_
                 subst ea_; subst ec_; clear en_
                 go_wp2_with (first | ((with_reducible refine gC (f := 132) rfl ?_); refine goesL_ (some 69) rfl rfl Try.func132 (by kernel_rfl) rfl #[.pointer (some _)] rfl pA ?_; (refine Calls.mono (spec_l6Bases.calls k3 ((rd_T72 l0 0).f0) ((rd_T72 l0 0).f1) ((rd_T72 l0 0).f2) ((rd_T72 l0 0).f3) _ _ ((rd_T72 l0 0).f4) false _ ?side1 ?side2 A23.out (hpp0_0 := by first | (with_unfolding_all assumption) | (dsimp only; assumption) | (dsimp only [Nat.zero_add]; exact (blk_cell (Aside0.out (by assumption)) _).trans rfl) | (go_simp; done)) (hpp0_1 := by first | (with_unfolding_all assumption) | (dsimp only; assumption) | (dsimp only [Nat.zero_add]; exact (blk_cell (Aside0.out (by assumption)) _).trans rfl) | (go_simp; done)) (hpp0_2 := by first | (with_unfolding_all assumption) | (dsimp only; assumption) | (dsimp only [Nat.zero_add]; exact (blk_cell (Aside0.out (by assumption)) _).trans rfl) | (go_simp; done)) (hpp0_3 := by first | (with_unfolding_all assumption) | (dsimp only; assumption) | (dsimp only [Nat.zero_add]; exact (blk_cell (Aside0.out (by assumption)) _).trans rfl) | (go_simp; done)) (hpp0_4 := by first | (with_unfolding_all assumption) | (dsimp only; assumption) | (dsimp only [Nat.zero_add]; exact (blk_cell (Aside0.out (by assumption)) _).trans rfl) | (go_simp; done))) ?_); (case side1 => exact pC (Kd.C_below HR390_4.out HB.out)); (case side2 => exact HC390_4.out); rintro e w36 ⟨rfl, hb⟩; refine ⟨_, rfl, ?_⟩; have n_ := am (bz_ pB hb); clear HB; have HB := n_; clear n_; (try clear hb)))
                 go_ret
                 exact ⟨pE, pB⟩
           · rw [if_neg c16] at H
             exact absurd H (by simp)
end Go.Proofs.Ythjlbpgiaehjnaa.QFnExactBlockRoot
