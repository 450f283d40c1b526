-- written by this session's program (wip/tools/myprint.py)
import Derived.Test.YthjlbpgiaehjnaaDoorQFnCutsx0
import Derived.Test.YthjlbpgiaehjnaaDoorQFnCutsx7
-- squeezed
namespace Go.Proofs.YthjlbpgiaehjnaaDoor.QFnCuts
open Go.RowKit Go.Proofs.YthjlbpgiaehjnaaDoorW.PrintWords Go.Proofs.YthjlbpgiaehjnaaDoorW.PrintLast Go.Proofs.YthjlbpgiaehjnaaDoorW.PrintMore
attribute [local go_sem] max2_int min2_int max_two min_two max_three min_three max_four min_four   -- for this text's walks alone
set_option linter.unusedVariables false
set_option linter.unusedSimpArgs false
set_option maxHeartbeats 8000000
set_option maxRecDepth 100000
def spec_l8Text.l0 : Nat → ByteArray → Int → Option (Bool)
 | 0, _, _ => none
 | k + 1, x0, x3 => if x3 < (x0.size : Int) then (if 0 ≤ x3 then (if (bt x0 x3) < 32 then (some false) else (if (bt x0 x3) > 126 then (some false) else (if (bt x0 x3) = 34 then (some false) else (if (bt x0 x3) = 92 then (some false) else (spec_l8Text.l0 k x0 (wrap64 (x3 + 1))))))) else (none)) else (some (decide ((x0.size : Int) ≤ 40)))
def spec_l8Text.f (k : Nat) (a0 : ByteArray) : Option (Bool) := spec_l8Text.l0 k a0 0
theorem spec_l8Text.mono_l : ∀ k, (∀ y0 y1, LeO (spec_l8Text.l0 k y0 y1) (spec_l8Text.l0 (k + 1) y0 y1))
 | 0 => fun _ _ r h => by simp [spec_l8Text.l0] at h
 | k + 1 => by
  have ih0 := spec_l8Text.mono_l k
  · intro y0 y1
    unfold spec_l8Text.l0
    repeat' with_reducible first | exact ih0 _ _ | exact LeO.refl _ | exact LeO.none _ | refine LeO.ite ?_ ?_ | refine LeO.bind ?_ (fun _ => ?_)
theorem spec_l8Text.mono : ∀ a0 k, LeO (spec_l8Text.f k a0) (spec_l8Text.f (k + 1) a0) := by
 intro a0 k
 have ih0 := spec_l8Text.mono_l k
 unfold spec_l8Text.f
 repeat' with_reducible first | exact ih0 _ _ | exact LeO.refl _ | exact LeO.none _ | refine LeO.ite ?_ ?_ | refine LeO.bind ?_ (fun _ => ?_)
theorem spec_l8Text.calls (k : Nat) (a0 : ByteArray) (r : Bool) (w : World) (h : spec_l8Text.f k a0 = some r) :
 Calls Tryd.prog 100 #[.string a0] w fun e w' => e = .returned (.bool r) ∧ Drawn0 w w' := by
 have H : (spec_l8Text.l0 k a0 0) = some r := h
 clear h
 have H' := am H
 clear H
 go_enter Tryd.func100, Tryd.ntmps100
 go_wp2
 go_loopg [3] k (fun kq v3 w' => ∃ (x3_1 : Int), v3 = .int .i64 x3_1 ∧ Aside0 (spec_l8Text.l0 kq a0 x3_1 = some r) ∧ Aside0 (kq ≤ k) ∧ Drawn0 w w')
 case atStart => exact ⟨(0), pF, H', ⟨Nat.le_refl _⟩, pW⟩
 case round =>
  clear H'
  obtain ⟨x3_1, rfl, HA, HK1, ⟨m1, rfl⟩⟩ := hrel
  cases gk with
  | zero => exact absurd HA.out (by simp [spec_l8Text.l0])
  | succ k1 =>
   have H := HA.out
   clear HA
   simp only [spec_l8Text.l0] at H
   by_cases c2 : x3_1 < (a0.size : Int)
   · rw [if_pos c2] at H
     have c2b0 : decide (x3_1 < (a0.size : Int)) = true := dt c2
     clear c2
     by_cases c3 : 0 ≤ x3_1
     · rw [if_pos c3] at H
       have c3b0 : decide (0 ≤ x3_1) = true := dt c3
       clear c3
       by_cases c5 : (bt a0 x3_1) < 32
       · rw [if_pos c5] at H
         have c5b0 : decide ((bt a0 x3_1) < 32) = true := dt c5
         clear c5
         obtain rfl := sj H
         have p4 : 0 ≤ (x3_1 : Int) := pD
         have q4 : x3_1 < (a0.size : Int) := pD
         have hx4 := bt_at a0 x3_1
         replace p4 := eq_true p4; replace q4 := eq_true q4
         go_wp2
         go_ret
         exact ⟨by first | rfl | (simp; done) | (simp [*]; done), pW⟩
       · rw [if_neg c5] at H
         have c5b0 : decide ((bt a0 x3_1) < 32) = false := decide_eq_false c5
         clear c5
         by_cases c7 : (bt a0 x3_1) > 126
         · rw [if_pos c7] at H
           have c7b0 : decide (126 < (bt a0 x3_1)) = true := dt c7
           clear c7
           obtain rfl := sj H
           have p4 : 0 ≤ (x3_1 : Int) := pD
           have q4 : x3_1 < (a0.size : Int) := pD
           have hx4 := bt_at a0 x3_1
           replace p4 := eq_true p4; replace q4 := eq_true q4
           have p6 : 0 ≤ (x3_1 : Int) := pD
           have q6 : x3_1 < (a0.size : Int) := pD
           have hx6 := bt_at a0 x3_1
           replace p6 := eq_true p6; replace q6 := eq_true q6
           go_wp2
           go_ret
           exact ⟨by first | rfl | (simp; done) | (simp [*]; done), pW⟩
         · rw [if_neg c7] at H
           have c7b0 : decide (126 < (bt a0 x3_1)) = false := decide_eq_false c7
           clear c7
           by_cases c9 : (bt a0 x3_1) = 34
           · rw [if_pos c9] at H
             have c9b0 : ((bt a0 x3_1) == 34) = true := beq_iff_eq.mpr c9
             have c9b1 : ((bt a0 x3_1) != 34) = false := bne_eq_false_iff_eq.mpr c9
             clear c9
             obtain rfl := sj H
             have p4 : 0 ≤ (x3_1 : Int) := pD
             have q4 : x3_1 < (a0.size : Int) := pD
             have hx4 := bt_at a0 x3_1
             replace p4 := eq_true p4; replace q4 := eq_true q4
             have p6 : 0 ≤ (x3_1 : Int) := pD
             have q6 : x3_1 < (a0.size : Int) := pD
             have hx6 := bt_at a0 x3_1
             replace p6 := eq_true p6; replace q6 := eq_true q6
             have p8 : 0 ≤ (x3_1 : Int) := pD
             have q8 : x3_1 < (a0.size : Int) := pD
             have hx8 := bt_at a0 x3_1
             replace p8 := eq_true p8; replace q8 := eq_true q8
             go_wp2
             go_ret
             exact ⟨by first | rfl | (simp; done) | (simp [*]; done), pW⟩
           · rw [if_neg c9] at H
             have c9b0 : ((bt a0 x3_1) == 34) = false := beq_eq_false_iff_ne.mpr c9
             have c9b1 : ((bt a0 x3_1) != 34) = true := bne_iff_ne.mpr c9
             by_cases c11 : (bt a0 x3_1) = 92
             · rw [if_pos c11] at H
               have c11b0 : ((bt a0 x3_1) == 92) = true := beq_iff_eq.mpr c11
               have c11b1 : ((bt a0 x3_1) != 92) = false := bne_eq_false_iff_eq.mpr c11
               clear c11
               obtain rfl := sj H
               have p4 : 0 ≤ (x3_1 : Int) := pD
               have q4 : x3_1 < (a0.size : Int) := pD
               have hx4 := bt_at a0 x3_1
               replace p4 := eq_true p4; replace q4 := eq_true q4
               have p6 : 0 ≤ (x3_1 : Int) := pD
               have q6 : x3_1 < (a0.size : Int) := pD
               have hx6 := bt_at a0 x3_1
               replace p6 := eq_true p6; replace q6 := eq_true q6
               have p8 : 0 ≤ (x3_1 : Int) := pD
               have q8 : x3_1 < (a0.size : Int) := pD
               have hx8 := bt_at a0 x3_1
               replace p8 := eq_true p8; replace q8 := eq_true q8
               have p10 : 0 ≤ (x3_1 : Int) := pD
               have q10 : x3_1 < (a0.size : Int) := pD
               have hx10 := bt_at a0 x3_1
               replace p10 := eq_true p10; replace q10 := eq_true q10
               go_wp2
               go_ret
               exact ⟨by first | rfl | (simp; done) | (simp [*]; done), pW⟩
             · rw [if_neg c11] at H
               have c11b0 : ((bt a0 x3_1) == 92) = false := beq_eq_false_iff_ne.mpr c11
               have c11b1 : ((bt a0 x3_1) != 92) = true := bne_iff_ne.mpr c11
               have H' := am H
               clear H
               have p4 : 0 ≤ (x3_1 : Int) := pD
               have q4 : x3_1 < (a0.size : Int) := pD
               have hx4 := bt_at a0 x3_1
               replace p4 := eq_true p4; replace q4 := eq_true q4
               have p6 : 0 ≤ (x3_1 : Int) := pD
               have q6 : x3_1 < (a0.size : Int) := pD
               have hx6 := bt_at a0 x3_1
               replace p6 := eq_true p6; replace q6 := eq_true q6
               have p8 : 0 ≤ (x3_1 : Int) := pD
               have q8 : x3_1 < (a0.size : Int) := pD
               have hx8 := bt_at a0 x3_1
               replace p8 := eq_true p8; replace q8 := eq_true q8
               have p10 : 0 ≤ (x3_1 : Int) := pD
               have q10 : x3_1 < (a0.size : Int) := pD
               have hx10 := bt_at a0 x3_1
               replace p10 := eq_true p10; replace q10 := eq_true q10
               go_wp2
               go_roundg k1
               case measure => have := HK1.out; omega
               case rel => exact ⟨(wrap64 (x3_1 + 1)), pF, H', ⟨by have := HK1.out; omega⟩, pW⟩
     · rw [if_neg c3] at H
       exact absurd H (by simp)
   · rw [if_neg c2] at H
     have c2b0 : decide (x3_1 < (a0.size : Int)) = false := decide_eq_false c2
     clear c2
     obtain rfl := sj H
     go_wp2
     go_ret
     exact ⟨by first | rfl | (simp; done) | (simp [*]; done), pW⟩
def spec_l8One_in.j0 : Nat → List (S81) → Bool → Option (Int)
 | 0, _, _ => none
 | k + 1, x0, x43 => if x43 = true then (some 1) else (if 0 < (x0.length : Int) then ((spec_l8Num.f k ((rd_T81 x0 0).f0) ((rd_T81 x0 0).f1) ((rd_T81 x0 0).f2)).bind fun t295 => (if t295 = true then ((spec_l8Text.f k ((rd_T81 x0 0).f2)).bind fun t297 => (if t297 = true then (some 0) else (some 5))) else (some 3))) else (none))
def spec_l8One_in.f (k : Nat) (l0 : List (S81)) : Option (Int) := if 0 < (l0.length : Int) then ((spec_l1In.f ((rd_T81 l0 0).f0) 1 6).bind fun t293 => (if t293 = true then (if ((rd_T81 l0 0).f0) = 4 then (if ((rd_T81 l0 0).f0) = 1 then (spec_l8One_in.j0 k l0 (((rd_T81 l0 0).f1) != 0)) else (spec_l8One_in.j0 k l0 (((rd_T81 l0 0).f1) != 0))) else (if ((rd_T81 l0 0).f2).toList = ([] : List UInt8) then (if ((rd_T81 l0 0).f0) = 1 then (spec_l8One_in.j0 k l0 (((rd_T81 l0 0).f1) != 0)) else (spec_l8One_in.j0 k l0 false)) else (spec_l8One_in.j0 k l0 true))) else (spec_l8One_in.j0 k l0 true))) else (none)
theorem spec_l8One_in.mono_l : ∀ k, (∀ y0 y1, LeO (spec_l8One_in.j0 k y0 y1) (spec_l8One_in.j0 (k + 1) y0 y1))
 | 0 => fun _ _ r h => by simp [spec_l8One_in.j0] at h
 | k + 1 => by
  have ih0 := spec_l8One_in.mono_l k
  · intro y0 y1
    unfold spec_l8One_in.j0
    repeat' with_reducible first | exact ih0 _ _ | exact spec_l8Num.mono _ _ _ _ | exact spec_l8Text.mono _ _ | exact LeO.refl _ | exact LeO.none _ | refine LeO.ite ?_ ?_ | refine LeO.bind ?_ (fun _ => ?_)
theorem spec_l8One_in.mono : ∀ a0 k, LeO (spec_l8One_in.f k a0) (spec_l8One_in.f (k + 1) a0) := by
 intro a0 k
 have ih0 := spec_l8One_in.mono_l k
 unfold spec_l8One_in.f
 repeat' with_reducible first | exact ih0 _ _ | exact spec_l8Num.mono _ _ _ _ | exact spec_l8Text.mono _ _ | exact LeO.refl _ | exact LeO.none _ | refine LeO.ite ?_ ?_ | refine LeO.bind ?_ (fun _ => ?_)
theorem spec_l8One_in.calls (k : Nat) (A0 : Option Addr) (c0 : Nat) (l0 : List (S81)) (r : Int) (w : World) (hr0 : Kd.C k81 w A0 l0.length l0) (hc0 : l0.length ≤ c0) (h : spec_l8One_in.f k l0 = some r) :
 Calls Tryd.prog 80 #[.pointer A0] w fun e w' => e = .returned (.int .i64 r) ∧ Below w.heap.size w w' := by
 have hu81 := Tryd.underlying81
 have HR0 := am hr0; have HC0 := am hc0; clear hr0 hc0
 have HB := am (Below.refl w.heap.size w)
 have H : (if 0 < (l0.length : Int) then ((spec_l1In.f ((rd_T81 l0 0).f0) 1 6).bind fun t293 => (if t293 = true then (if ((rd_T81 l0 0).f0) = 4 then (if ((rd_T81 l0 0).f0) = 1 then (spec_l8One_in.j0 k l0 (((rd_T81 l0 0).f1) != 0)) else (spec_l8One_in.j0 k l0 (((rd_T81 l0 0).f1) != 0))) else (if ((rd_T81 l0 0).f2).toList = ([] : List UInt8) then (if ((rd_T81 l0 0).f0) = 1 then (spec_l8One_in.j0 k l0 (((rd_T81 l0 0).f1) != 0)) else (spec_l8One_in.j0 k l0 false)) else (spec_l8One_in.j0 k l0 true))) else (spec_l8One_in.j0 k l0 true))) else (none)) = some r := h
 clear h; have HC2 := am H; clear H
 go_enter Tryd.func80, Tryd.ntmps80
 go_upto_region 1 with (fail)
 go_cut [43] (fun v43 wc => ∃ (kq : Nat) (x43_1 : Bool), v43 = .bool x43_1 ∧ Aside0 (spec_l8One_in.j0 kq l0 x43_1 = some r) ∧ Aside0 (kq ≤ k) ∧ Aside0 (Below w.heap.size w wc))
 case first =>
  have H := HC2.out
  clear HC2
  by_cases c3 : 0 < (l0.length : Int)
  · rw [if_pos c3] at H
    have c3b0 : decide (0 < (l0.length : Int)) = true := dt c3
    have c3b1 : decide (0 < l0.length) = true := dt (by omega)
    clear c3
    (first | rw [c3b0] | (simp only [i64_w, i32_w]; rw [c3b0]) | skip)
    obtain ⟨t293, A40, H⟩ := bO H
    replace H : (if t293 = true then (if ((rd_T81 l0 0).f0) = 4 then (if ((rd_T81 l0 0).f0) = 1 then (spec_l8One_in.j0 k l0 (((rd_T81 l0 0).f1) != 0)) else (spec_l8One_in.j0 k l0 (((rd_T81 l0 0).f1) != 0))) else (if ((rd_T81 l0 0).f2).toList = ([] : List UInt8) then (if ((rd_T81 l0 0).f0) = 1 then (spec_l8One_in.j0 k l0 (((rd_T81 l0 0).f1) != 0)) else (spec_l8One_in.j0 k l0 false)) else (spec_l8One_in.j0 k l0 true))) else (spec_l8One_in.j0 k l0 true)) = some r := H
    have A4 := am A40; clear A40
    by_cases c5 : t293 = true
    · subst c5
      have H1 : (if ((rd_T81 l0 0).f0) = 4 then (if ((rd_T81 l0 0).f0) = 1 then (spec_l8One_in.j0 k l0 (((rd_T81 l0 0).f1) != 0)) else (spec_l8One_in.j0 k l0 (((rd_T81 l0 0).f1) != 0))) else (if ((rd_T81 l0 0).f2).toList = ([] : List UInt8) then (if ((rd_T81 l0 0).f0) = 1 then (spec_l8One_in.j0 k l0 (((rd_T81 l0 0).f1) != 0)) else (spec_l8One_in.j0 k l0 false)) else (spec_l8One_in.j0 k l0 true))) = some r := by rw [if_pos rfl] at H; exact H
      clear H; have H := H1; clear H1
      by_cases c6 : ((rd_T81 l0 0).f0) = 4
      · rw [if_pos c6] at H
        have c6b0 : (((rd_T81 l0 0).f0) == 4) = true := beq_iff_eq.mpr c6
        have c6b1 : (((rd_T81 l0 0).f0) != 4) = false := bne_eq_false_iff_eq.mpr c6
        clear c6
        by_cases c7 : ((rd_T81 l0 0).f0) = 1
        · rw [if_pos c7] at H
          have c7b0 : (((rd_T81 l0 0).f0) == 1) = true := beq_iff_eq.mpr c7
          have c7b1 : (((rd_T81 l0 0).f0) != 1) = false := bne_eq_false_iff_eq.mpr c7
          clear c7
          have H' := am H
          clear H
          have p292 : 0 ≤ (0 : Int) := (by omega)
          have q292 : 0 < (l0.length : Int) := pD
          obtain ⟨ad292, e292, hx292_0, hx292_1, hx292_2⟩ := at_T81 HR0.out 0 p292 q292
          cases e292
          have qi292 : (0 < l0.length) = True := eq_true (by omega)
          (try rw [z0, zm, az] at hx292_0); (try rw [z0, zm, az] at hx292_1); (try rw [z0, zm, az] at hx292_2); replace hx292_0 := cb HB hx292_0; replace hx292_1 := cb HB hx292_1; replace hx292_2 := cb HB hx292_2; replace p292 := eq_true p292; replace q292 := eq_true q292
          go_wp2_with (first | ((with_reducible refine gC (f := 43) rfl ?_); refine goesL_ (some 7) rfl rfl Tryd.func43 (by kernel_rfl) rfl #[.int .i64 ((rd_T81 l0 0).f0), .int .i64 1, .int .i64 6] rfl pA ?_; (with_reducible refine (spec_l1In.calls ((rd_T81 l0 0).f0) 1 6 true _ A4.out).mono ?_); rintro e w' ⟨rfl, ⟨nd, rfl⟩⟩; refine ⟨_, rfl, ?_⟩))
          go_meet
          case rel => exact ⟨_, ((((rd_T81 l0 0).f1) != 0)), pF, H', ⟨by first | omega | exact Nat.le_refl _⟩, ⟨pB⟩⟩
        · rw [if_neg c7] at H
          have c7b0 : (((rd_T81 l0 0).f0) == 1) = false := beq_eq_false_iff_ne.mpr c7
          have c7b1 : (((rd_T81 l0 0).f0) != 1) = true := bne_iff_ne.mpr c7
          have H' := am H
          clear H
          have p292 : 0 ≤ (0 : Int) := (by omega)
          have q292 : 0 < (l0.length : Int) := pD
          obtain ⟨ad292, e292, hx292_0, hx292_1, hx292_2⟩ := at_T81 HR0.out 0 p292 q292
          cases e292
          have qi292 : (0 < l0.length) = True := eq_true (by omega)
          (try rw [z0, zm, az] at hx292_0); (try rw [z0, zm, az] at hx292_1); (try rw [z0, zm, az] at hx292_2); replace hx292_0 := cb HB hx292_0; replace hx292_1 := cb HB hx292_1; replace hx292_2 := cb HB hx292_2; replace p292 := eq_true p292; replace q292 := eq_true q292
          go_wp2_with (first | ((with_reducible refine gC (f := 43) rfl ?_); refine goesL_ (some 7) rfl rfl Tryd.func43 (by kernel_rfl) rfl #[.int .i64 ((rd_T81 l0 0).f0), .int .i64 1, .int .i64 6] rfl pA ?_; (with_reducible refine (spec_l1In.calls ((rd_T81 l0 0).f0) 1 6 true _ A4.out).mono ?_); rintro e w' ⟨rfl, ⟨nd, rfl⟩⟩; refine ⟨_, rfl, ?_⟩))
          go_meet
          case rel => exact ⟨_, ((((rd_T81 l0 0).f1) != 0)), pF, H', ⟨by first | omega | exact Nat.le_refl _⟩, ⟨pB⟩⟩
      · rw [if_neg c6] at H
        have c6b0 : (((rd_T81 l0 0).f0) == 4) = false := beq_eq_false_iff_ne.mpr c6
        have c6b1 : (((rd_T81 l0 0).f0) != 4) = true := bne_iff_ne.mpr c6
        by_cases c8 : ((rd_T81 l0 0).f2).toList = ([] : List UInt8)
        · rw [if_pos c8] at H
          have c8b0 : (((rd_T81 l0 0).f2).toList == ([] : List UInt8)) = true := beq_iff_eq.mpr c8
          have c8b1 : (((rd_T81 l0 0).f2).toList != ([] : List UInt8)) = false := bne_eq_false_iff_eq.mpr c8
          clear c8
          by_cases c9 : ((rd_T81 l0 0).f0) = 1
          · rw [if_pos c9] at H
            have c9b0 : (((rd_T81 l0 0).f0) == 1) = true := beq_iff_eq.mpr c9
            have c9b1 : (((rd_T81 l0 0).f0) != 1) = false := bne_eq_false_iff_eq.mpr c9
            clear c9
            have H' := am H
            clear H
            have p292 : 0 ≤ (0 : Int) := (by omega)
            have q292 : 0 < (l0.length : Int) := pD
            obtain ⟨ad292, e292, hx292_0, hx292_1, hx292_2⟩ := at_T81 HR0.out 0 p292 q292
            cases e292
            have qi292 : (0 < l0.length) = True := eq_true (by omega)
            (try rw [z0, zm, az] at hx292_0); (try rw [z0, zm, az] at hx292_1); (try rw [z0, zm, az] at hx292_2); replace hx292_0 := cb HB hx292_0; replace hx292_1 := cb HB hx292_1; replace hx292_2 := cb HB hx292_2; replace p292 := eq_true p292; replace q292 := eq_true q292
            go_wp2_with (first | ((with_reducible refine gC (f := 43) rfl ?_); refine goesL_ (some 7) rfl rfl Tryd.func43 (by kernel_rfl) rfl #[.int .i64 ((rd_T81 l0 0).f0), .int .i64 1, .int .i64 6] rfl pA ?_; (with_reducible refine (spec_l1In.calls ((rd_T81 l0 0).f0) 1 6 true _ A4.out).mono ?_); rintro e w' ⟨rfl, ⟨nd, rfl⟩⟩; refine ⟨_, rfl, ?_⟩))
            go_meet
            case rel => exact ⟨_, ((((rd_T81 l0 0).f1) != 0)), pF, H', ⟨by first | omega | exact Nat.le_refl _⟩, ⟨pB⟩⟩
          · rw [if_neg c9] at H
            have c9b0 : (((rd_T81 l0 0).f0) == 1) = false := beq_eq_false_iff_ne.mpr c9
            have c9b1 : (((rd_T81 l0 0).f0) != 1) = true := bne_iff_ne.mpr c9
            have H' := am H
            clear H
            have p292 : 0 ≤ (0 : Int) := (by omega)
            have q292 : 0 < (l0.length : Int) := pD
            obtain ⟨ad292, e292, hx292_0, hx292_1, hx292_2⟩ := at_T81 HR0.out 0 p292 q292
            cases e292
            have qi292 : (0 < l0.length) = True := eq_true (by omega)
            (try rw [z0, zm, az] at hx292_0); (try rw [z0, zm, az] at hx292_1); (try rw [z0, zm, az] at hx292_2); replace hx292_0 := cb HB hx292_0; replace hx292_1 := cb HB hx292_1; replace hx292_2 := cb HB hx292_2; replace p292 := eq_true p292; replace q292 := eq_true q292
            go_wp2_with (first | ((with_reducible refine gC (f := 43) rfl ?_); refine goesL_ (some 7) rfl rfl Tryd.func43 (by kernel_rfl) rfl #[.int .i64 ((rd_T81 l0 0).f0), .int .i64 1, .int .i64 6] rfl pA ?_; (with_reducible refine (spec_l1In.calls ((rd_T81 l0 0).f0) 1 6 true _ A4.out).mono ?_); rintro e w' ⟨rfl, ⟨nd, rfl⟩⟩; refine ⟨_, rfl, ?_⟩))
            go_meet
            case rel => exact ⟨_, (false), pF, H', ⟨by first | omega | exact Nat.le_refl _⟩, ⟨pB⟩⟩
        · rw [if_neg c8] at H
          have c8b0 : (((rd_T81 l0 0).f2).toList == ([] : List UInt8)) = false := beq_eq_false_iff_ne.mpr c8
          have c8b1 : (((rd_T81 l0 0).f2).toList != ([] : List UInt8)) = true := bne_iff_ne.mpr c8
          have H' := am H
          clear H
          have p292 : 0 ≤ (0 : Int) := (by omega)
          have q292 : 0 < (l0.length : Int) := pD
          obtain ⟨ad292, e292, hx292_0, hx292_1, hx292_2⟩ := at_T81 HR0.out 0 p292 q292
          cases e292
          have qi292 : (0 < l0.length) = True := eq_true (by omega)
          (try rw [z0, zm, az] at hx292_0); (try rw [z0, zm, az] at hx292_1); (try rw [z0, zm, az] at hx292_2); replace hx292_0 := cb HB hx292_0; replace hx292_1 := cb HB hx292_1; replace hx292_2 := cb HB hx292_2; replace p292 := eq_true p292; replace q292 := eq_true q292
          go_wp2_with (first | ((with_reducible refine gC (f := 43) rfl ?_); refine goesL_ (some 7) rfl rfl Tryd.func43 (by kernel_rfl) rfl #[.int .i64 ((rd_T81 l0 0).f0), .int .i64 1, .int .i64 6] rfl pA ?_; (with_reducible refine (spec_l1In.calls ((rd_T81 l0 0).f0) 1 6 true _ A4.out).mono ?_); rintro e w' ⟨rfl, ⟨nd, rfl⟩⟩; refine ⟨_, rfl, ?_⟩))
          go_meet
          case rel => exact ⟨_, (true), pF, H', ⟨by first | omega | exact Nat.le_refl _⟩, ⟨pB⟩⟩
    · replace c5 := Bool.eq_false_iff.mpr c5
      subst c5
      have H1 : (spec_l8One_in.j0 k l0 true) = some r := by rw [if_neg (show ¬ (false = true) by decide)] at H; exact H
      clear H; have H := H1; clear H1
      have H' := am H
      clear H
      have p292 : 0 ≤ (0 : Int) := (by omega)
      have q292 : 0 < (l0.length : Int) := pD
      obtain ⟨ad292, e292, hx292_0, hx292_1, hx292_2⟩ := at_T81 HR0.out 0 p292 q292
      cases e292
      have qi292 : (0 < l0.length) = True := eq_true (by omega)
      (try rw [z0, zm, az] at hx292_0); (try rw [z0, zm, az] at hx292_1); (try rw [z0, zm, az] at hx292_2); replace hx292_0 := cb HB hx292_0; replace hx292_1 := cb HB hx292_1; replace hx292_2 := cb HB hx292_2; replace p292 := eq_true p292; replace q292 := eq_true q292
      go_wp2_with (first | ((with_reducible refine gC (f := 43) rfl ?_); refine goesL_ (some 7) rfl rfl Tryd.func43 (by kernel_rfl) rfl #[.int .i64 ((rd_T81 l0 0).f0), .int .i64 1, .int .i64 6] rfl pA ?_; (with_reducible refine (spec_l1In.calls ((rd_T81 l0 0).f0) 1 6 false _ A4.out).mono ?_); rintro e w' ⟨rfl, ⟨nd, rfl⟩⟩; refine ⟨_, rfl, ?_⟩))
      go_meet
      case rel => exact ⟨_, (true), pF, H', ⟨by first | omega | exact Nat.le_refl _⟩, ⟨pB⟩⟩
  · rw [if_neg c3] at H
    exact absurd H (by simp)
 case rest =>
  clear HC2
  obtain ⟨kq, x43_1, rfl, HA, HJ1, HB⟩ := hcut
  cases kq with
  | zero => exact absurd HA.out (by simp [spec_l8One_in.j0])
  | succ kj1 =>
   have H := HA.out
   clear HA
   simp only [spec_l8One_in.j0] at H
   by_cases c10 : x43_1 = true
   · subst c10
     have H1 : (some 1) = some r := by rw [if_pos rfl] at H; exact H
     clear H; have H := H1; clear H1
     obtain rfl := sj H
     go_wp2
     go_ret
     exact ⟨pE, pB⟩
   · replace c10 := Bool.eq_false_iff.mpr c10
     subst c10
     have H1 : (if 0 < (l0.length : Int) then ((spec_l8Num.f kj1 ((rd_T81 l0 0).f0) ((rd_T81 l0 0).f1) ((rd_T81 l0 0).f2)).bind fun t295 => (if t295 = true then ((spec_l8Text.f kj1 ((rd_T81 l0 0).f2)).bind fun t297 => (if t297 = true then (some 0) else (some 5))) else (some 3))) else (none)) = some r := by rw [if_neg (show ¬ (false = true) by decide)] at H; exact H
     clear H; have H := H1; clear H1
     by_cases c11 : 0 < (l0.length : Int)
     · rw [if_pos c11] at H
       have c11b0 : decide (0 < (l0.length : Int)) = true := dt c11
       have c11b1 : decide (0 < l0.length) = true := dt (by omega)
       clear c11
       obtain ⟨t295, A120, H⟩ := bO H
       replace H : (if t295 = true then ((spec_l8Text.f kj1 ((rd_T81 l0 0).f2)).bind fun t297 => (if t297 = true then (some 0) else (some 5))) else (some 3)) = some r := H
       have A12 := am A120; clear A120
       by_cases c13 : t295 = true
       · subst c13
         have H1 : ((spec_l8Text.f kj1 ((rd_T81 l0 0).f2)).bind fun t297 => (if t297 = true then (some 0) else (some 5))) = some r := by rw [if_pos rfl] at H; exact H
         clear H; have H := H1; clear H1
         obtain ⟨t297, A140, H⟩ := bO H
         replace H : (if t297 = true then (some 0) else (some 5)) = some r := H
         have A14 := am A140; clear A140
         by_cases c15 : t297 = true
         · subst c15
           have H1 : (some 0) = some r := by rw [if_pos rfl] at H; exact H
           clear H; have H := H1; clear H1
           obtain rfl := sj H
           have p294 : 0 ≤ (0 : Int) := (by omega)
           have q294 : 0 < (l0.length : Int) := pD
           obtain ⟨ad294, e294, hx294_0, hx294_1, hx294_2⟩ := at_T81 HR0.out 0 p294 q294
           cases e294
           have qi294 : (0 < l0.length) = True := eq_true (by omega)
           (try rw [z0, zm, az] at hx294_0); (try rw [z0, zm, az] at hx294_1); (try rw [z0, zm, az] at hx294_2); replace hx294_0 := cb HB hx294_0; replace hx294_1 := cb HB hx294_1; replace hx294_2 := cb HB hx294_2; replace p294 := eq_true p294; replace q294 := eq_true q294
           go_wp2_with (first | ((with_reducible refine gC (f := 99) rfl ?_); refine goesL_ (some 45) rfl rfl Tryd.func99 (by kernel_rfl) rfl #[.pointer (some _)] rfl pA ?_; (refine Calls.mono (spec_l8Num.calls kj1 ((rd_T81 l0 0).f0) ((rd_T81 l0 0).f1) ((rd_T81 l0 0).f2) true _ A12.out (hpp0_0 := by first | (with_unfolding_all assumption) | (dsimp only; assumption) | (dsimp only [Nat.zero_add]; exact (blk_cell (Aside0.out (by assumption)) _).trans rfl) | (go_simp; done)) (hpp0_1 := by first | (with_unfolding_all assumption) | (dsimp only; assumption) | (dsimp only [Nat.zero_add]; exact (blk_cell (Aside0.out (by assumption)) _).trans rfl) | (go_simp; done)) (hpp0_2 := by first | (with_unfolding_all assumption) | (dsimp only; assumption) | (dsimp only [Nat.zero_add]; exact (blk_cell (Aside0.out (by assumption)) _).trans rfl) | (go_simp; done))) ?_); rintro e w16 ⟨rfl, hb⟩; refine ⟨_, rfl, ?_⟩; have n_ := am (bz_ pB hb); clear HB; have HB := n_; clear n_; (try clear hb); have p296 : 0 ≤ (0 : Int) := (by omega); have q296 : 0 < (l0.length : Int) := pD; obtain ⟨ad296, e296, hx296_0, hx296_1, hx296_2⟩ := at_T81 HR0.out 0 p296 q296; obtain rfl : ad294 = ad296 := (by injection e296); have qi296 : (0 < l0.length) = True := eq_true (by omega); (try rw [show ((0 : Int)).toNat = 0 from rfl] at hx296_0); (try rw [show 0 * 3 = 0 from rfl] at hx296_0); (try rw [Addr.add_zero'] at hx296_0); (try rw [show ((0 : Int)).toNat = 0 from rfl] at hx296_1); (try rw [show 0 * 3 = 0 from rfl] at hx296_1); (try rw [Addr.add_zero'] at hx296_1); (try rw [show ((0 : Int)).toNat = 0 from rfl] at hx296_2); (try rw [show 0 * 3 = 0 from rfl] at hx296_2); (try rw [Addr.add_zero'] at hx296_2); replace hx296_0 := cb HB hx296_0; replace hx296_1 := cb HB hx296_1; replace hx296_2 := cb HB hx296_2; replace p296 := eq_true p296; replace q296 := eq_true q296) | ((with_reducible refine gC (f := 100) rfl ?_); refine goesL_ (some 51) rfl rfl Tryd.func100 (by kernel_rfl) rfl #[.string ((rd_T81 l0 0).f2)] rfl pA ?_; (with_reducible refine (spec_l8Text.calls kj1 ((rd_T81 l0 0).f2) true _ A14.out).mono ?_); rintro e w' ⟨rfl, ⟨nd, rfl⟩⟩; refine ⟨_, rfl, ?_⟩))
           go_ret
           exact ⟨pE, pB⟩
         · replace c15 := Bool.eq_false_iff.mpr c15
           subst c15
           have H1 : (some 5) = some r := by rw [if_neg (show ¬ (false = true) by decide)] at H; exact H
           clear H; have H := H1; clear H1
           obtain rfl := sj H
           have p294 : 0 ≤ (0 : Int) := (by omega)
           have q294 : 0 < (l0.length : Int) := pD
           obtain ⟨ad294, e294, hx294_0, hx294_1, hx294_2⟩ := at_T81 HR0.out 0 p294 q294
           cases e294
           have qi294 : (0 < l0.length) = True := eq_true (by omega)
           (try rw [z0, zm, az] at hx294_0); (try rw [z0, zm, az] at hx294_1); (try rw [z0, zm, az] at hx294_2); replace hx294_0 := cb HB hx294_0; replace hx294_1 := cb HB hx294_1; replace hx294_2 := cb HB hx294_2; replace p294 := eq_true p294; replace q294 := eq_true q294
           go_wp2_with (first | ((with_reducible refine gC (f := 99) rfl ?_); refine goesL_ (some 45) rfl rfl Tryd.func99 (by kernel_rfl) rfl #[.pointer (some _)] rfl pA ?_; (refine Calls.mono (spec_l8Num.calls kj1 ((rd_T81 l0 0).f0) ((rd_T81 l0 0).f1) ((rd_T81 l0 0).f2) true _ A12.out (hpp0_0 := by first | (with_unfolding_all assumption) | (dsimp only; assumption) | (dsimp only [Nat.zero_add]; exact (blk_cell (Aside0.out (by assumption)) _).trans rfl) | (go_simp; done)) (hpp0_1 := by first | (with_unfolding_all assumption) | (dsimp only; assumption) | (dsimp only [Nat.zero_add]; exact (blk_cell (Aside0.out (by assumption)) _).trans rfl) | (go_simp; done)) (hpp0_2 := by first | (with_unfolding_all assumption) | (dsimp only; assumption) | (dsimp only [Nat.zero_add]; exact (blk_cell (Aside0.out (by assumption)) _).trans rfl) | (go_simp; done))) ?_); rintro e w17 ⟨rfl, hb⟩; refine ⟨_, rfl, ?_⟩; have n_ := am (bz_ pB hb); clear HB; have HB := n_; clear n_; (try clear hb); have p296 : 0 ≤ (0 : Int) := (by omega); have q296 : 0 < (l0.length : Int) := pD; obtain ⟨ad296, e296, hx296_0, hx296_1, hx296_2⟩ := at_T81 HR0.out 0 p296 q296; obtain rfl : ad294 = ad296 := (by injection e296); have qi296 : (0 < l0.length) = True := eq_true (by omega); (try rw [show ((0 : Int)).toNat = 0 from rfl] at hx296_0); (try rw [show 0 * 3 = 0 from rfl] at hx296_0); (try rw [Addr.add_zero'] at hx296_0); (try rw [show ((0 : Int)).toNat = 0 from rfl] at hx296_1); (try rw [show 0 * 3 = 0 from rfl] at hx296_1); (try rw [Addr.add_zero'] at hx296_1); (try rw [show ((0 : Int)).toNat = 0 from rfl] at hx296_2); (try rw [show 0 * 3 = 0 from rfl] at hx296_2); (try rw [Addr.add_zero'] at hx296_2); replace hx296_0 := cb HB hx296_0; replace hx296_1 := cb HB hx296_1; replace hx296_2 := cb HB hx296_2; replace p296 := eq_true p296; replace q296 := eq_true q296) | ((with_reducible refine gC (f := 100) rfl ?_); refine goesL_ (some 51) rfl rfl Tryd.func100 (by kernel_rfl) rfl #[.string ((rd_T81 l0 0).f2)] rfl pA ?_; (with_reducible refine (spec_l8Text.calls kj1 ((rd_T81 l0 0).f2) false _ A14.out).mono ?_); rintro e w' ⟨rfl, ⟨nd, rfl⟩⟩; refine ⟨_, rfl, ?_⟩))
           go_ret
           exact ⟨pE, pB⟩
       · replace c13 := Bool.eq_false_iff.mpr c13
         subst c13
         have H1 : (some 3) = some r := by rw [if_neg (show ¬ (false = true) by decide)] at H; exact H
         clear H; have H := H1; clear H1
         obtain rfl := sj H
         have p294 : 0 ≤ (0 : Int) := (by omega)
         have q294 : 0 < (l0.length : Int) := pD
         obtain ⟨ad294, e294, hx294_0, hx294_1, hx294_2⟩ := at_T81 HR0.out 0 p294 q294
         cases e294
         have qi294 : (0 < l0.length) = True := eq_true (by omega)
         (try rw [z0, zm, az] at hx294_0); (try rw [z0, zm, az] at hx294_1); (try rw [z0, zm, az] at hx294_2); replace hx294_0 := cb HB hx294_0; replace hx294_1 := cb HB hx294_1; replace hx294_2 := cb HB hx294_2; replace p294 := eq_true p294; replace q294 := eq_true q294
         go_wp2_with (first | ((with_reducible refine gC (f := 99) rfl ?_); refine goesL_ (some 45) rfl rfl Tryd.func99 (by kernel_rfl) rfl #[.pointer (some _)] rfl pA ?_; (refine Calls.mono (spec_l8Num.calls kj1 ((rd_T81 l0 0).f0) ((rd_T81 l0 0).f1) ((rd_T81 l0 0).f2) false _ A12.out (hpp0_0 := by first | (with_unfolding_all assumption) | (dsimp only; assumption) | (dsimp only [Nat.zero_add]; exact (blk_cell (Aside0.out (by assumption)) _).trans rfl) | (go_simp; done)) (hpp0_1 := by first | (with_unfolding_all assumption) | (dsimp only; assumption) | (dsimp only [Nat.zero_add]; exact (blk_cell (Aside0.out (by assumption)) _).trans rfl) | (go_simp; done)) (hpp0_2 := by first | (with_unfolding_all assumption) | (dsimp only; assumption) | (dsimp only [Nat.zero_add]; exact (blk_cell (Aside0.out (by assumption)) _).trans rfl) | (go_simp; done))) ?_); rintro e w18 ⟨rfl, hb⟩; refine ⟨_, rfl, ?_⟩; have n_ := am (bz_ pB hb); clear HB; have HB := n_; clear n_; (try clear hb)))
         go_ret
         exact ⟨pE, pB⟩
     · rw [if_neg c11] at H
       exact absurd H (by simp)
def spec_l8One.f (k : Nat) (a0_0 : Int) (a0_1 : Int) (a0_2 : ByteArray) : Option (Int) := spec_l8One_in.f k [(⟨a0_0, a0_1, a0_2⟩ : S81)]
theorem spec_l8One.mono : ∀ (a0_0 : Int) (a0_1 : Int) (a0_2 : ByteArray) (k : Nat), LeO (spec_l8One.f k a0_0 a0_1 a0_2) (spec_l8One.f (k + 1) a0_0 a0_1 a0_2) := fun a0_0 a0_1 a0_2 k => spec_l8One_in.mono [(⟨a0_0, a0_1, a0_2⟩ : S81)] k
set_option maxHeartbeats 8000000 in
theorem spec_l8One.calls (k : Nat) (a0_0 : Int) (a0_1 : Int) (a0_2 : ByteArray) (r : Int) (w : World) (h : spec_l8One.f k a0_0 a0_1 a0_2 = some r) {pp0 : Addr} (hpp0_0 : w.cell? pp0 = some (.int .i64 a0_0)) (hpp0_1 : w.cell? ⟨pp0.block, pp0.off + 1, none⟩ = some (.int .i64 a0_1)) (hpp0_2 : w.cell? ⟨pp0.block, pp0.off + 2, none⟩ = some (.string a0_2)) :
 Calls Tryd.prog 80 #[.pointer (some pp0)] w fun e w' => e = .returned (.int .i64 r) ∧ Below w.heap.size w w' := by
 have o0 : Kd.C k81 w (some pp0) 1 [(⟨a0_0, a0_1, a0_2⟩ : S81)] := by
  refine ⟨rfl, by decide, fun _ => ⟨pp0, rfl, fun j p hj => ?_⟩⟩
  cases j with
  | succ j => simp at hj
  | zero =>
   obtain rfl : (⟨a0_0, a0_1, a0_2⟩ : S81) = p := by simpa using hj
   refine ⟨_, rfl, k81_mk w _, fun i u hu => ?_⟩
   match i, hu with
   | 0, hu => obtain rfl := sj hu; exact hpp0_0
   | 1, hu => obtain rfl := sj hu; exact hpp0_1
   | 2, hu => obtain rfl := sj hu; exact hpp0_2
 exact spec_l8One_in.calls k (some pp0) 1 [(⟨a0_0, a0_1, a0_2⟩ : S81)] r w o0 (Nat.le_refl 1) h
end Go.Proofs.YthjlbpgiaehjnaaDoor.QFnCuts
