-- written by this session's program (wip/tools/myprint.py)
import Derived.Test.YthjlbpgiaehjnaaQFnExactBlockFaultx0
import Derived.Test.YthjlbpgiaehjnaaQFnExactBlockFaultx1
-- squeezed
namespace Go.Proofs.Ythjlbpgiaehjnaa.QFnExactBlockFault
open Go.RowKit Go.Proofs.YthjlbpgiaehjnaaW.PrintWords Go.Proofs.YthjlbpgiaehjnaaW.PrintLast Go.Proofs.YthjlbpgiaehjnaaW.PrintMore
attribute [local go_sem] max2_int min2_int max_two min_two max_three min_three max_four min_four   -- for this text's walks alone
set_option linter.unusedVariables false
set_option linter.unusedSimpArgs false
set_option maxHeartbeats 8000000
set_option maxRecDepth 100000
mutual
def spec_l3In.j0 : Nat → List (S34) → Int → Bool → Option (Int)
 | 0, _, _, _ => none
 | k + 1, x0, x1, x23 => if x23 = true then (some 3) else (if 0 ≤ x1 then (if x1 < (x0.length : Int) then (if (((rd_T34 x0 x1).f2).length : Int) > 8 then (some 2) else ((spec_l1All.f k ((rd_T34 x0 x1).f2) 0 9999).bind fun t125 => (if t125 = true then (spec_l3In.l0 k x0 x1 0) else (some 3)))) else (none)) else (none))
def spec_l3In.l0 : Nat → List (S34) → Int → Int → Option (Int)
 | 0, _, _, _ => none
 | k + 1, x0, x1, x6 => if x6 < x1 then (if 0 ≤ x6 then (if x6 < (x0.length : Int) then (if 0 ≤ x1 then (if x1 < (x0.length : Int) then (if ((rd_T34 x0 x6).f0) = ((rd_T34 x0 x1).f0) then (if ((rd_T34 x0 x6).f1) = ((rd_T34 x0 x1).f1) then (some 6) else (spec_l3In.l0 k x0 x1 (wrap64 (x6 + 1)))) else (spec_l3In.l0 k x0 x1 (wrap64 (x6 + 1)))) else (none)) else (none)) else (none)) else (none)) else (some 0)
end
def spec_l3In.f (k : Nat) (l0 : List (S34)) (a1 : Int) : Option (Int) := if 0 ≤ a1 then (if a1 < (l0.length : Int) then ((spec_l1In.f ((rd_T34 l0 a1).f0) 0 2147483646).bind fun t120 => (if t120 = true then ((spec_l1In.f ((rd_T34 l0 a1).f1) 0 3).bind fun t122 => (spec_l3In.j0 k l0 a1 (!t122))) else (spec_l3In.j0 k l0 a1 true))) else (none)) else (none)
theorem spec_l3In.mono_l : ∀ k, (∀ y0 y1 y2, LeO (spec_l3In.j0 k y0 y1 y2) (spec_l3In.j0 (k + 1) y0 y1 y2)) ∧ (∀ y0 y1 y2, LeO (spec_l3In.l0 k y0 y1 y2) (spec_l3In.l0 (k + 1) y0 y1 y2))
 | 0 => ⟨fun _ _ _ r h => by simp [spec_l3In.j0] at h, fun _ _ _ r h => by simp [spec_l3In.l0] at h⟩
 | k + 1 => by
  obtain ⟨ih0, ih1⟩ := spec_l3In.mono_l k
  refine ⟨?_, ?_⟩
  · intro y0 y1 y2
    unfold spec_l3In.j0
    repeat' with_reducible first | exact ih0 _ _ _ | exact ih1 _ _ _ | exact spec_l1All.mono _ _ _ _ | exact LeO.refl _ | exact LeO.none _ | refine LeO.ite ?_ ?_ | refine LeO.bind ?_ (fun _ => ?_)
  · intro y0 y1 y2
    unfold spec_l3In.l0
    repeat' with_reducible first | exact ih0 _ _ _ | exact ih1 _ _ _ | exact spec_l1All.mono _ _ _ _ | exact LeO.refl _ | exact LeO.none _ | refine LeO.ite ?_ ?_ | refine LeO.bind ?_ (fun _ => ?_)
theorem spec_l3In.mono : ∀ a0 a1 k, LeO (spec_l3In.f k a0 a1) (spec_l3In.f (k + 1) a0 a1) := by
 intro a0 a1 k
 obtain ⟨ih0, ih1⟩ := spec_l3In.mono_l k
 unfold spec_l3In.f
 repeat' with_reducible first | exact ih0 _ _ _ | exact ih1 _ _ _ | exact spec_l1All.mono _ _ _ _ | exact LeO.refl _ | exact LeO.none _ | refine LeO.ite ?_ ?_ | refine LeO.bind ?_ (fun _ => ?_)
theorem spec_l3In.calls (k : Nat) (A0 : Option Addr) (c0 : Nat) (l0 : List (S34)) (a1 : Int) (r : Int) (w : World) (hr0 : Kd.C k34 w A0 l0.length l0) (hc0 : l0.length ≤ c0) (h : spec_l3In.f k l0 a1 = some r) :
 Calls Try.prog 101 #[.slice A0 l0.length c0, .int .i64 a1] w fun e w' => e = .returned (.int .i64 r) ∧ Drawn0 w w' := by
 have hfd34_0 : ∀ (c0 c1 c2 : Value) (w : World), (Instr.field 34 (.agg #[c0, c1, c2]) 0).run Try.prog w = .ok c0 w := by intro c0 c1 c2 w; kernel_rfl
 have hfd34_1 : ∀ (c0 c1 c2 : Value) (w : World), (Instr.field 34 (.agg #[c0, c1, c2]) 1).run Try.prog w = .ok c1 w := by intro c0 c1 c2 w; kernel_rfl
 have hu34 := Try.underlying34
 have HR0 := Aside0.mk hr0; have HC0 := Aside0.mk hc0; clear hr0 hc0
 have H : (if 0 ≤ a1 then (if a1 < (l0.length : Int) then ((spec_l1In.f ((rd_T34 l0 a1).f0) 0 2147483646).bind fun t120 => (if t120 = true then ((spec_l1In.f ((rd_T34 l0 a1).f1) 0 3).bind fun t122 => (spec_l3In.j0 k l0 a1 (!t122))) else (spec_l3In.j0 k l0 a1 true))) else (none)) else (none)) = some r := h
 clear h
 by_cases c3 : 0 ≤ a1
 · rw [if_pos c3] at H
   have c3b0 : decide (0 ≤ a1) = true := decide_eq_true c3
   clear c3
   by_cases c4 : a1 < (l0.length : Int)
   · rw [if_pos c4] at H
     have c4b0 : decide (a1 < (l0.length : Int)) = true := decide_eq_true c4
     clear c4; have HC5 := Aside0.mk H; clear H
     have p118 : 0 ≤ (a1 : Int) := pD
     have q118 : a1 < (l0.length : Int) := pD
     obtain ⟨ad118, A118_2, c118_2, e118, hx118_0, hx118_1, hx118_2, hl118_2, hi118_2⟩ := at_T34 HR0.out a1 p118 q118
     cases e118; have HR118_2 := Aside0.mk hi118_2; have HC118_2 := Aside0.mk hl118_2; clear hi118_2 hl118_2; replace p118 := eq_true p118; replace q118 := eq_true q118
     go_enter Try.func101, Try.ntmps101
     go_upto_region 2 with (fail)
     repeat (go_quiet (fail); go_upto_region 2 with (fail))
     go_cut [23] (fun v23 wc => ∃ (kq : Nat) (x23_4 : Bool), v23 = .bool x23_4 ∧ Aside0 (spec_l3In.j0 kq l0 a1 x23_4 = some r) ∧ Aside0 (kq ≤ k) ∧ Drawn0 w wc)
     case first =>
      have H := HC5.out
      clear HC5
      obtain ⟨t120, A60, H⟩ := bO H
      replace H : (if t120 = true then ((spec_l1In.f ((rd_T34 l0 a1).f1) 0 3).bind fun t122 => (spec_l3In.j0 k l0 a1 (!t122))) else (spec_l3In.j0 k l0 a1 true)) = some r := H
      have A6 := Aside0.mk A60; clear A60
      by_cases c7 : t120 = true
      · subst c7
        have H1 : ((spec_l1In.f ((rd_T34 l0 a1).f1) 0 3).bind fun t122 => (spec_l3In.j0 k l0 a1 (!t122))) = some r := by rw [if_pos rfl] at H; exact H
        clear H; have H := H1; clear H1
        obtain ⟨t122, A80, H⟩ := bO H
        replace H : (spec_l3In.j0 k l0 a1 (!t122)) = some r := H
        have A8 := Aside0.mk A80; clear A80
        have H' := Aside0.mk H
        clear H
        have p119 : 0 ≤ (a1 : Int) := pD
        have q119 : a1 < (l0.length : Int) := pD
        obtain ⟨ad119, A119_2, c119_2, e119, hx119_0, hx119_1, hx119_2, hl119_2, hi119_2⟩ := at_T34 HR0.out a1 p119 q119
        obtain rfl : ad118 = ad119 := (by injection e119)
        have HR119_2 := Aside0.mk hi119_2; have HC119_2 := Aside0.mk hl119_2; clear hi119_2 hl119_2; replace p119 := eq_true p119; replace q119 := eq_true q119
        go_wp2_with (first | (go_at_call 81; (with_reducible refine (spec_l1In.calls ((rd_T34 l0 a1).f0) 0 2147483646 true _ A6.out).mono ?_); rintro e w' ⟨rfl, ⟨nd, rfl⟩⟩; (try first | exact ⟨rfl, _, World.drewN_drewN _ _ _⟩ | exact ⟨rfl, _, Eq.trans (World.drewN_drewN _ _ _) (congrArg (World.drewN _) (Nat.add_assoc _ _ _))⟩); have p121 : 0 ≤ (a1 : Int) := pD; have q121 : a1 < (l0.length : Int) := pD; obtain ⟨ad121, A121_2, c121_2, e121, hx121_0, hx121_1, hx121_2, hl121_2, hi121_2⟩ := at_T34 HR0.out a1 p121 q121; obtain rfl : ad118 = ad121 := (by injection e121); have HR121_2 := Aside0.mk hi121_2; have HC121_2 := Aside0.mk hl121_2; clear hi121_2 hl121_2; replace p121 := eq_true p121; replace q121 := eq_true q121; have ea_ := Option.some.inj (hx119_2.symm.trans hx121_2); injection ea_ with ea_ en_ ec_; subst ea_; subst ec_; clear en_) | (go_at_call 81; (with_reducible refine (spec_l1In.calls ((rd_T34 l0 a1).f1) 0 3 t122 _ A8.out).mono ?_); rintro e w' ⟨rfl, ⟨nd, rfl⟩⟩; (try first | exact ⟨rfl, _, World.drewN_drewN _ _ _⟩ | exact ⟨rfl, _, Eq.trans (World.drewN_drewN _ _ _) (congrArg (World.drewN _) (Nat.add_assoc _ _ _))⟩)))
        repeat (go_quiet (first | (go_at_call 81; (with_reducible refine (spec_l1In.calls ((rd_T34 l0 a1).f0) 0 2147483646 true _ A6.out).mono ?_); rintro e w' ⟨rfl, ⟨nd, rfl⟩⟩; (try first | exact ⟨rfl, _, World.drewN_drewN _ _ _⟩ | exact ⟨rfl, _, Eq.trans (World.drewN_drewN _ _ _) (congrArg (World.drewN _) (Nat.add_assoc _ _ _))⟩); have p121 : 0 ≤ (a1 : Int) := pD; have q121 : a1 < (l0.length : Int) := pD; obtain ⟨ad121, A121_2, c121_2, e121, hx121_0, hx121_1, hx121_2, hl121_2, hi121_2⟩ := at_T34 HR0.out a1 p121 q121; obtain rfl : ad118 = ad121 := (by injection e121); have HR121_2 := Aside0.mk hi121_2; have HC121_2 := Aside0.mk hl121_2; clear hi121_2 hl121_2; replace p121 := eq_true p121; replace q121 := eq_true q121; have ea_ := Option.some.inj (hx119_2.symm.trans hx121_2); injection ea_ with ea_ en_ ec_; subst ea_; subst ec_; clear en_) | (go_at_call 81; (with_reducible refine (spec_l1In.calls ((rd_T34 l0 a1).f1) 0 3 t122 _ A8.out).mono ?_); rintro e w' ⟨rfl, ⟨nd, rfl⟩⟩; (try first | exact ⟨rfl, _, World.drewN_drewN _ _ _⟩ | exact ⟨rfl, _, Eq.trans (World.drewN_drewN _ _ _) (congrArg (World.drewN _) (Nat.add_assoc _ _ _))⟩))); try go_wp2_with (first | (go_at_call 81; (with_reducible refine (spec_l1In.calls ((rd_T34 l0 a1).f0) 0 2147483646 true _ A6.out).mono ?_); rintro e w' ⟨rfl, ⟨nd, rfl⟩⟩; (try first | exact ⟨rfl, _, World.drewN_drewN _ _ _⟩ | exact ⟨rfl, _, Eq.trans (World.drewN_drewN _ _ _) (congrArg (World.drewN _) (Nat.add_assoc _ _ _))⟩); have p121 : 0 ≤ (a1 : Int) := pD; have q121 : a1 < (l0.length : Int) := pD; obtain ⟨ad121, A121_2, c121_2, e121, hx121_0, hx121_1, hx121_2, hl121_2, hi121_2⟩ := at_T34 HR0.out a1 p121 q121; obtain rfl : ad118 = ad121 := (by injection e121); have HR121_2 := Aside0.mk hi121_2; have HC121_2 := Aside0.mk hl121_2; clear hi121_2 hl121_2; replace p121 := eq_true p121; replace q121 := eq_true q121; have ea_ := Option.some.inj (hx119_2.symm.trans hx121_2); injection ea_ with ea_ en_ ec_; subst ea_; subst ec_; clear en_) | (go_at_call 81; (with_reducible refine (spec_l1In.calls ((rd_T34 l0 a1).f1) 0 3 t122 _ A8.out).mono ?_); rintro e w' ⟨rfl, ⟨nd, rfl⟩⟩; (try first | exact ⟨rfl, _, World.drewN_drewN _ _ _⟩ | exact ⟨rfl, _, Eq.trans (World.drewN_drewN _ _ _) (congrArg (World.drewN _) (Nat.add_assoc _ _ _))⟩))))
        go_meet
        case rel => exact ⟨_, (!t122), pF, H', ⟨by first | omega | exact Nat.le_refl _⟩, pW⟩
      · replace c7 := Bool.eq_false_iff.mpr c7
        subst c7
        have H1 : (spec_l3In.j0 k l0 a1 true) = some r := by rw [if_neg (show ¬ (false = true) by decide)] at H; exact H
        clear H; have H := H1; clear H1
        have H' := Aside0.mk H
        clear H
        have p119 : 0 ≤ (a1 : Int) := pD
        have q119 : a1 < (l0.length : Int) := pD
        obtain ⟨ad119, A119_2, c119_2, e119, hx119_0, hx119_1, hx119_2, hl119_2, hi119_2⟩ := at_T34 HR0.out a1 p119 q119
        obtain rfl : ad118 = ad119 := (by injection e119)
        have HR119_2 := Aside0.mk hi119_2; have HC119_2 := Aside0.mk hl119_2; clear hi119_2 hl119_2; replace p119 := eq_true p119; replace q119 := eq_true q119
        go_wp2_with (first | (go_at_call 81; (with_reducible refine (spec_l1In.calls ((rd_T34 l0 a1).f0) 0 2147483646 false _ A6.out).mono ?_); rintro e w' ⟨rfl, ⟨nd, rfl⟩⟩; (try first | exact ⟨rfl, _, World.drewN_drewN _ _ _⟩ | exact ⟨rfl, _, Eq.trans (World.drewN_drewN _ _ _) (congrArg (World.drewN _) (Nat.add_assoc _ _ _))⟩)))
        repeat (go_quiet (first | (go_at_call 81; (with_reducible refine (spec_l1In.calls ((rd_T34 l0 a1).f0) 0 2147483646 false _ A6.out).mono ?_); rintro e w' ⟨rfl, ⟨nd, rfl⟩⟩; (try first | exact ⟨rfl, _, World.drewN_drewN _ _ _⟩ | exact ⟨rfl, _, Eq.trans (World.drewN_drewN _ _ _) (congrArg (World.drewN _) (Nat.add_assoc _ _ _))⟩))); try go_wp2_with (first | (go_at_call 81; (with_reducible refine (spec_l1In.calls ((rd_T34 l0 a1).f0) 0 2147483646 false _ A6.out).mono ?_); rintro e w' ⟨rfl, ⟨nd, rfl⟩⟩; (try first | exact ⟨rfl, _, World.drewN_drewN _ _ _⟩ | exact ⟨rfl, _, Eq.trans (World.drewN_drewN _ _ _) (congrArg (World.drewN _) (Nat.add_assoc _ _ _))⟩))))
        go_meet
        case rel => exact ⟨_, (true), pF, H', ⟨by first | omega | exact Nat.le_refl _⟩, pW⟩
     case rest =>
      clear HC5; (try clear c1); (try clear p1); (try clear q1); (try clear hx1); (try clear p2); (try clear c3); (try clear c3b0); (try clear c4); (try clear c4b0); (try clear c7); (try clear hx118_0); (try clear hx118_1); (try clear hx118_2); (try clear hx119_0); (try clear hx119_1); (try clear hx119_2); (try clear hx121_0); (try clear hx121_1); (try clear hx121_2); (try clear p118); (try clear p119); (try clear p121); (try clear q118); (try clear q119); (try clear q121)
      obtain ⟨kq, x23_4, rfl, HA, HJ4, ⟨mc4, rfl⟩⟩ := hcut
      cases kq with
      | zero => exact absurd HA.out (by simp [spec_l3In.j0])
      | succ kj4 =>
       have H := HA.out
       clear HA
       simp only [spec_l3In.j0] at H
       by_cases c9 : x23_4 = true
       · subst c9
         have H1 : (some 3) = some r := by rw [if_pos rfl] at H; exact H
         clear H; have H := H1; clear H1
         obtain rfl := Option.some.inj H
         go_wp2
         repeat (go_quiet (fail); try go_wp2)
         go_ret
         exact ⟨by first | rfl | (simp; done) | (simp [*]; done), pW⟩
       · replace c9 := Bool.eq_false_iff.mpr c9
         subst c9
         have H1 : (if 0 ≤ a1 then (if a1 < (l0.length : Int) then (if (((rd_T34 l0 a1).f2).length : Int) > 8 then (some 2) else ((spec_l1All.f kj4 ((rd_T34 l0 a1).f2) 0 9999).bind fun t125 => (if t125 = true then (spec_l3In.l0 kj4 l0 a1 0) else (some 3)))) else (none)) else (none)) = some r := by rw [if_neg (show ¬ (false = true) by decide)] at H; exact H
         clear H; have H := H1; clear H1
         by_cases c10 : 0 ≤ a1
         · rw [if_pos c10] at H
           have c10b0 : decide (0 ≤ a1) = true := decide_eq_true c10
           clear c10
           by_cases c11 : a1 < (l0.length : Int)
           · rw [if_pos c11] at H
             have c11b0 : decide (a1 < (l0.length : Int)) = true := decide_eq_true c11
             clear c11
             by_cases c12 : (((rd_T34 l0 a1).f2).length : Int) > 8
             · rw [if_pos c12] at H
               have c12b0 : decide (8 < (((rd_T34 l0 a1).f2).length : Int)) = true := decide_eq_true c12
               have c12b1 : decide (8 < ((rd_T34 l0 a1).f2).length) = true := decide_eq_true (by omega)
               clear c12
               obtain rfl := Option.some.inj H
               have p123 : 0 ≤ (a1 : Int) := pD
               have q123 : a1 < (l0.length : Int) := pD
               obtain ⟨ad123, A123_2, c123_2, e123, hx123_0, hx123_1, hx123_2, hl123_2, hi123_2⟩ := at_T34 HR0.out a1 p123 q123
               obtain rfl : ad118 = ad123 := (by injection e123)
               have HR123_2 := Aside0.mk hi123_2; have HC123_2 := Aside0.mk hl123_2; clear hi123_2 hl123_2; replace p123 := eq_true p123; replace q123 := eq_true q123
               go_wp2
               repeat (go_quiet (fail); try go_wp2)
               go_ret
               exact ⟨by first | rfl | (simp; done) | (simp [*]; done), pW⟩
             · rw [if_neg c12] at H
               have c12b0 : decide (8 < (((rd_T34 l0 a1).f2).length : Int)) = false := decide_eq_false c12
               have c12b1 : decide (8 < ((rd_T34 l0 a1).f2).length) = false := decide_eq_false (by omega)
               clear c12
               obtain ⟨t125, A130, H⟩ := bO H
               replace H : (if t125 = true then (spec_l3In.l0 kj4 l0 a1 0) else (some 3)) = some r := H
               have A13 := Aside0.mk A130; clear A130
               by_cases c14 : t125 = true
               · subst c14
                 have H1 : (spec_l3In.l0 kj4 l0 a1 0) = some r := by rw [if_pos rfl] at H; exact H
                 clear H; have H := H1; clear H1
                 have H' := Aside0.mk H
                 clear H
                 have p123 : 0 ≤ (a1 : Int) := pD
                 have q123 : a1 < (l0.length : Int) := pD
                 obtain ⟨ad123, A123_2, c123_2, e123, hx123_0, hx123_1, hx123_2, hl123_2, hi123_2⟩ := at_T34 HR0.out a1 p123 q123
                 obtain rfl : ad118 = ad123 := (by injection e123)
                 have HR123_2 := Aside0.mk hi123_2; have HC123_2 := Aside0.mk hl123_2; clear hi123_2 hl123_2; replace p123 := eq_true p123; replace q123 := eq_true q123
                 have p124 : 0 ≤ (a1 : Int) := pD
                 have q124 : a1 < (l0.length : Int) := pD
                 obtain ⟨ad124, A124_2, c124_2, e124, hx124_0, hx124_1, hx124_2, hl124_2, hi124_2⟩ := at_T34 HR0.out a1 p124 q124
                 obtain rfl : ad118 = ad124 := (by injection e124)
                 have HR124_2 := Aside0.mk hi124_2; have HC124_2 := Aside0.mk hl124_2; clear hi124_2 hl124_2; replace p124 := eq_true p124; replace q124 := eq_true q124
                 have ea_ := Option.some.inj (hx123_2.symm.trans hx124_2)
                 injection ea_ with ea_ en_ ec_
                 subst ea_; subst ec_; clear en_
                 go_wp2_with (first | (go_at_call 137; (with_reducible refine (spec_l1All.calls kj4 _ _ ((rd_T34 l0 a1).f2) 0 9999 true _ ?side1 ?side2 A13.out).mono ?_); (case side1 => exact pC HR124_2.out); (case side2 => exact HC124_2.out); rintro e w' ⟨rfl, ⟨nd, rfl⟩⟩; (try first | exact ⟨rfl, _, World.drewN_drewN _ _ _⟩ | exact ⟨rfl, _, Eq.trans (World.drewN_drewN _ _ _) (congrArg (World.drewN _) (Nat.add_assoc _ _ _))⟩)))
                 repeat (go_quiet (first | (go_at_call 137; (with_reducible refine (spec_l1All.calls kj4 _ _ ((rd_T34 l0 a1).f2) 0 9999 true _ ?side1 ?side2 A13.out).mono ?_); (case side1 => exact pC HR124_2.out); (case side2 => exact HC124_2.out); rintro e w' ⟨rfl, ⟨nd, rfl⟩⟩; (try first | exact ⟨rfl, _, World.drewN_drewN _ _ _⟩ | exact ⟨rfl, _, Eq.trans (World.drewN_drewN _ _ _) (congrArg (World.drewN _) (Nat.add_assoc _ _ _))⟩))); try go_wp2_with (first | (go_at_call 137; (with_reducible refine (spec_l1All.calls kj4 _ _ ((rd_T34 l0 a1).f2) 0 9999 true _ ?side1 ?side2 A13.out).mono ?_); (case side1 => exact pC HR124_2.out); (case side2 => exact HC124_2.out); rintro e w' ⟨rfl, ⟨nd, rfl⟩⟩; (try first | exact ⟨rfl, _, World.drewN_drewN _ _ _⟩ | exact ⟨rfl, _, Eq.trans (World.drewN_drewN _ _ _) (congrArg (World.drewN _) (Nat.add_assoc _ _ _))⟩))))
                 go_loopg [6] kj4 (fun kq v6 w' => ∃ (x6_2 : Int), v6 = .int .i64 x6_2 ∧ Aside0 (spec_l3In.l0 kq l0 a1 x6_2 = some r) ∧ Aside0 (kq ≤ kj4) ∧ Drawn0 w w')
                 case atStart => exact ⟨(0), pF, H', ⟨Nat.le_refl _⟩, pW⟩
                 case round =>
                  clear H'
                  (try clear c1); (try clear p1); (try clear q1); (try clear hx1); (try clear p2); (try clear c3); (try clear c3b0); (try clear c4); (try clear c4b0); (try clear c7); (try clear c9); (try clear c10); (try clear c10b0); (try clear c11); (try clear c11b0); (try clear p11); (try clear q11); (try clear hx11); (try clear c12); (try clear c12b0); (try clear c12b1); (try clear p12); (try clear q12); (try clear hx12); (try clear c14); (try clear hx118_0); (try clear hx118_1); (try clear hx118_2); (try clear hx119_0); (try clear hx119_1); (try clear hx119_2); (try clear hx121_0); (try clear hx121_1); (try clear hx121_2); (try clear hx123_0); (try clear hx123_1); (try clear hx123_2); (try clear hx124_0); (try clear hx124_1); (try clear hx124_2); (try clear p1); (try clear p118); (try clear p119); (try clear p121); (try clear p123); (try clear p124); (try clear p2); (try clear q1); (try clear q118); (try clear q119); (try clear q121); (try clear q123); (try clear q124)
                  obtain ⟨x6_2, rfl, HA, HK2, ⟨m2, rfl⟩⟩ := hrel
                  cases gk with
                  | zero => exact absurd HA.out (by simp [spec_l3In.l0])
                  | succ k2 =>
                   have H := HA.out
                   clear HA
                   simp only [spec_l3In.l0] at H
                   by_cases c15 : x6_2 < a1
                   · rw [if_pos c15] at H
                     have c15b0 : decide (x6_2 < a1) = true := decide_eq_true c15
                     clear c15
                     by_cases c16 : 0 ≤ x6_2
                     · rw [if_pos c16] at H
                       have c16b0 : decide (0 ≤ x6_2) = true := decide_eq_true c16
                       clear c16
                       by_cases c17 : x6_2 < (l0.length : Int)
                       · rw [if_pos c17] at H
                         have c17b0 : decide (x6_2 < (l0.length : Int)) = true := decide_eq_true c17
                         clear c17
                         by_cases c18 : 0 ≤ a1
                         · rw [if_pos c18] at H
                           have c18b0 : decide (0 ≤ a1) = true := decide_eq_true c18
                           clear c18
                           by_cases c19 : a1 < (l0.length : Int)
                           · rw [if_pos c19] at H
                             have c19b0 : decide (a1 < (l0.length : Int)) = true := decide_eq_true c19
                             clear c19
                             by_cases c20 : ((rd_T34 l0 x6_2).f0) = ((rd_T34 l0 a1).f0)
                             · rw [if_pos c20] at H
                               have c20b0 : (((rd_T34 l0 x6_2).f0) == ((rd_T34 l0 a1).f0)) = true := beq_iff_eq.mpr c20
                               have c20b1 : (((rd_T34 l0 x6_2).f0) != ((rd_T34 l0 a1).f0)) = false := bne_eq_false_iff_eq.mpr c20
                               clear c20
                               by_cases c21 : ((rd_T34 l0 x6_2).f1) = ((rd_T34 l0 a1).f1)
                               · rw [if_pos c21] at H
                                 have c21b0 : (((rd_T34 l0 x6_2).f1) == ((rd_T34 l0 a1).f1)) = true := beq_iff_eq.mpr c21
                                 have c21b1 : (((rd_T34 l0 x6_2).f1) != ((rd_T34 l0 a1).f1)) = false := bne_eq_false_iff_eq.mpr c21
                                 clear c21
                                 obtain rfl := Option.some.inj H
                                 have p126 : 0 ≤ (x6_2 : Int) := pD
                                 have q126 : x6_2 < (l0.length : Int) := pD
                                 obtain ⟨ad126, A126_2, c126_2, e126, hx126_0, hx126_1, hx126_2, hl126_2, hi126_2⟩ := at_T34 HR0.out x6_2 p126 q126
                                 obtain rfl : ad118 = ad126 := (by injection e126)
                                 have HR126_2 := Aside0.mk hi126_2; have HC126_2 := Aside0.mk hl126_2; clear hi126_2 hl126_2; replace p126 := eq_true p126; replace q126 := eq_true q126
                                 have p127 : 0 ≤ (a1 : Int) := pD
                                 have q127 : a1 < (l0.length : Int) := pD
                                 obtain ⟨ad127, A127_2, c127_2, e127, hx127_0, hx127_1, hx127_2, hl127_2, hi127_2⟩ := at_T34 HR0.out a1 p127 q127
                                 obtain rfl : ad118 = ad127 := (by injection e127)
                                 have HR127_2 := Aside0.mk hi127_2; have HC127_2 := Aside0.mk hl127_2; clear hi127_2 hl127_2; replace p127 := eq_true p127; replace q127 := eq_true q127
                                 have p128 : 0 ≤ (x6_2 : Int) := pD
                                 have q128 : x6_2 < (l0.length : Int) := pD
                                 obtain ⟨ad128, A128_2, c128_2, e128, hx128_0, hx128_1, hx128_2, hl128_2, hi128_2⟩ := at_T34 HR0.out x6_2 p128 q128
                                 obtain rfl : ad118 = ad128 := (by injection e128)
                                 have HR128_2 := Aside0.mk hi128_2; have HC128_2 := Aside0.mk hl128_2; clear hi128_2 hl128_2; replace p128 := eq_true p128; replace q128 := eq_true q128
                                 have ea_ := Option.some.inj (hx126_2.symm.trans hx128_2)
                                 injection ea_ with ea_ en_ ec_
                                 subst ea_; subst ec_; clear en_
                                 have p129 : 0 ≤ (a1 : Int) := pD
                                 have q129 : a1 < (l0.length : Int) := pD
                                 obtain ⟨ad129, A129_2, c129_2, e129, hx129_0, hx129_1, hx129_2, hl129_2, hi129_2⟩ := at_T34 HR0.out a1 p129 q129
                                 obtain rfl : ad118 = ad129 := (by injection e129)
                                 have HR129_2 := Aside0.mk hi129_2; have HC129_2 := Aside0.mk hl129_2; clear hi129_2 hl129_2; replace p129 := eq_true p129; replace q129 := eq_true q129
                                 have ea_ := Option.some.inj (hx127_2.symm.trans hx129_2)
                                 injection ea_ with ea_ en_ ec_
                                 subst ea_; subst ec_; clear en_
                                 go_wp2
                                 repeat (go_quiet (fail); try go_wp2)
                                 go_ret
                                 exact ⟨by first | rfl | (simp; done) | (simp [*]; done), pW⟩
                               · rw [if_neg c21] at H
                                 have c21b0 : (((rd_T34 l0 x6_2).f1) == ((rd_T34 l0 a1).f1)) = false := beq_eq_false_iff_ne.mpr c21
                                 have c21b1 : (((rd_T34 l0 x6_2).f1) != ((rd_T34 l0 a1).f1)) = true := bne_iff_ne.mpr c21
                                 have H' := Aside0.mk H
                                 clear H
                                 have p126 : 0 ≤ (x6_2 : Int) := pD
                                 have q126 : x6_2 < (l0.length : Int) := pD
                                 obtain ⟨ad126, A126_2, c126_2, e126, hx126_0, hx126_1, hx126_2, hl126_2, hi126_2⟩ := at_T34 HR0.out x6_2 p126 q126
                                 obtain rfl : ad118 = ad126 := (by injection e126)
                                 have HR126_2 := Aside0.mk hi126_2; have HC126_2 := Aside0.mk hl126_2; clear hi126_2 hl126_2; replace p126 := eq_true p126; replace q126 := eq_true q126
                                 have p127 : 0 ≤ (a1 : Int) := pD
                                 have q127 : a1 < (l0.length : Int) := pD
                                 obtain ⟨ad127, A127_2, c127_2, e127, hx127_0, hx127_1, hx127_2, hl127_2, hi127_2⟩ := at_T34 HR0.out a1 p127 q127
                                 obtain rfl : ad118 = ad127 := (by injection e127)
                                 have HR127_2 := Aside0.mk hi127_2; have HC127_2 := Aside0.mk hl127_2; clear hi127_2 hl127_2; replace p127 := eq_true p127; replace q127 := eq_true q127
                                 have p128 : 0 ≤ (x6_2 : Int) := pD
                                 have q128 : x6_2 < (l0.length : Int) := pD
                                 obtain ⟨ad128, A128_2, c128_2, e128, hx128_0, hx128_1, hx128_2, hl128_2, hi128_2⟩ := at_T34 HR0.out x6_2 p128 q128
                                 obtain rfl : ad118 = ad128 := (by injection e128)
                                 have HR128_2 := Aside0.mk hi128_2; have HC128_2 := Aside0.mk hl128_2; clear hi128_2 hl128_2; replace p128 := eq_true p128; replace q128 := eq_true q128
                                 have ea_ := Option.some.inj (hx126_2.symm.trans hx128_2)
                                 injection ea_ with ea_ en_ ec_
                                 subst ea_; subst ec_; clear en_
                                 have p129 : 0 ≤ (a1 : Int) := pD
                                 have q129 : a1 < (l0.length : Int) := pD
                                 obtain ⟨ad129, A129_2, c129_2, e129, hx129_0, hx129_1, hx129_2, hl129_2, hi129_2⟩ := at_T34 HR0.out a1 p129 q129
                                 obtain rfl : ad118 = ad129 := (by injection e129)
                                 have HR129_2 := Aside0.mk hi129_2; have HC129_2 := Aside0.mk hl129_2; clear hi129_2 hl129_2; replace p129 := eq_true p129; replace q129 := eq_true q129
                                 have ea_ := Option.some.inj (hx127_2.symm.trans hx129_2)
                                 injection ea_ with ea_ en_ ec_
                                 subst ea_; subst ec_; clear en_
                                 go_wp2
                                 repeat (go_quiet (fail); try go_wp2)
                                 go_roundg k2
                                 case measure => have := HJ4.out; have := HK2.out; omega
                                 case rel => exact ⟨(wrap64 (x6_2 + 1)), pF, H', ⟨by have := HJ4.out; have := HK2.out; omega⟩, pW⟩
                             · rw [if_neg c20] at H
                               have c20b0 : (((rd_T34 l0 x6_2).f0) == ((rd_T34 l0 a1).f0)) = false := beq_eq_false_iff_ne.mpr c20
                               have c20b1 : (((rd_T34 l0 x6_2).f0) != ((rd_T34 l0 a1).f0)) = true := bne_iff_ne.mpr c20
                               have H' := Aside0.mk H
                               clear H
                               have p126 : 0 ≤ (x6_2 : Int) := pD
                               have q126 : x6_2 < (l0.length : Int) := pD
                               obtain ⟨ad126, A126_2, c126_2, e126, hx126_0, hx126_1, hx126_2, hl126_2, hi126_2⟩ := at_T34 HR0.out x6_2 p126 q126
                               obtain rfl : ad118 = ad126 := (by injection e126)
                               have HR126_2 := Aside0.mk hi126_2; have HC126_2 := Aside0.mk hl126_2; clear hi126_2 hl126_2; replace p126 := eq_true p126; replace q126 := eq_true q126
                               have p127 : 0 ≤ (a1 : Int) := pD
                               have q127 : a1 < (l0.length : Int) := pD
                               obtain ⟨ad127, A127_2, c127_2, e127, hx127_0, hx127_1, hx127_2, hl127_2, hi127_2⟩ := at_T34 HR0.out a1 p127 q127
                               obtain rfl : ad118 = ad127 := (by injection e127)
                               have HR127_2 := Aside0.mk hi127_2; have HC127_2 := Aside0.mk hl127_2; clear hi127_2 hl127_2; replace p127 := eq_true p127; replace q127 := eq_true q127
                               go_wp2
                               repeat (go_quiet (fail); try go_wp2)
                               go_roundg k2
                               case measure => have := HJ4.out; have := HK2.out; omega
                               case rel => exact ⟨(wrap64 (x6_2 + 1)), pF, H', ⟨by have := HJ4.out; have := HK2.out; omega⟩, pW⟩
                           · rw [if_neg c19] at H
                             exact absurd H (by simp)
                         · rw [if_neg c18] at H
                           exact absurd H (by simp)
                       · rw [if_neg c17] at H
                         exact absurd H (by simp)
                     · rw [if_neg c16] at H
                       exact absurd H (by simp)
                   · rw [if_neg c15] at H
                     have c15b0 : decide (x6_2 < a1) = false := decide_eq_false c15
                     clear c15
                     obtain rfl := Option.some.inj H
                     go_wp2
                     repeat (go_quiet (fail); try go_wp2)
                     go_ret
                     exact ⟨by first | rfl | (simp; done) | (simp [*]; done), pW⟩
               · replace c14 := Bool.eq_false_iff.mpr c14
                 subst c14
                 have H1 : (some 3) = some r := by rw [if_neg (show ¬ (false = true) by decide)] at H; exact H
                 clear H; have H := H1; clear H1
                 obtain rfl := Option.some.inj H
                 have p123 : 0 ≤ (a1 : Int) := pD
                 have q123 : a1 < (l0.length : Int) := pD
                 obtain ⟨ad123, A123_2, c123_2, e123, hx123_0, hx123_1, hx123_2, hl123_2, hi123_2⟩ := at_T34 HR0.out a1 p123 q123
                 obtain rfl : ad118 = ad123 := (by injection e123)
                 have HR123_2 := Aside0.mk hi123_2; have HC123_2 := Aside0.mk hl123_2; clear hi123_2 hl123_2; replace p123 := eq_true p123; replace q123 := eq_true q123
                 have p124 : 0 ≤ (a1 : Int) := pD
                 have q124 : a1 < (l0.length : Int) := pD
                 obtain ⟨ad124, A124_2, c124_2, e124, hx124_0, hx124_1, hx124_2, hl124_2, hi124_2⟩ := at_T34 HR0.out a1 p124 q124
                 obtain rfl : ad118 = ad124 := (by injection e124)
                 have HR124_2 := Aside0.mk hi124_2; have HC124_2 := Aside0.mk hl124_2; clear hi124_2 hl124_2; replace p124 := eq_true p124; replace q124 := eq_true q124
                 have ea_ := Option.some.inj (hx123_2.symm.trans hx124_2)
                 injection ea_ with ea_ en_ ec_
                 subst ea_; subst ec_; clear en_
                 go_wp2_with (first | (go_at_call 137; (with_reducible refine (spec_l1All.calls kj4 _ _ ((rd_T34 l0 a1).f2) 0 9999 false _ ?side1 ?side2 A13.out).mono ?_); (case side1 => exact pC HR124_2.out); (case side2 => exact HC124_2.out); rintro e w' ⟨rfl, ⟨nd, rfl⟩⟩; (try first | exact ⟨rfl, _, World.drewN_drewN _ _ _⟩ | exact ⟨rfl, _, Eq.trans (World.drewN_drewN _ _ _) (congrArg (World.drewN _) (Nat.add_assoc _ _ _))⟩)))
                 repeat (go_quiet (first | (go_at_call 137; (with_reducible refine (spec_l1All.calls kj4 _ _ ((rd_T34 l0 a1).f2) 0 9999 false _ ?side1 ?side2 A13.out).mono ?_); (case side1 => exact pC HR124_2.out); (case side2 => exact HC124_2.out); rintro e w' ⟨rfl, ⟨nd, rfl⟩⟩; (try first | exact ⟨rfl, _, World.drewN_drewN _ _ _⟩ | exact ⟨rfl, _, Eq.trans (World.drewN_drewN _ _ _) (congrArg (World.drewN _) (Nat.add_assoc _ _ _))⟩))); try go_wp2_with (first | (go_at_call 137; (with_reducible refine (spec_l1All.calls kj4 _ _ ((rd_T34 l0 a1).f2) 0 9999 false _ ?side1 ?side2 A13.out).mono ?_); (case side1 => exact pC HR124_2.out); (case side2 => exact HC124_2.out); rintro e w' ⟨rfl, ⟨nd, rfl⟩⟩; (try first | exact ⟨rfl, _, World.drewN_drewN _ _ _⟩ | exact ⟨rfl, _, Eq.trans (World.drewN_drewN _ _ _) (congrArg (World.drewN _) (Nat.add_assoc _ _ _))⟩))))
                 go_ret
                 exact ⟨by first | rfl | (simp; done) | (simp [*]; done), pW⟩
           · rw [if_neg c11] at H
             exact absurd H (by simp)
         · rw [if_neg c10] at H
           exact absurd H (by simp)
   · rw [if_neg c4] at H
     exact absurd H (by simp)
 · rw [if_neg c3] at H
   exact absurd H (by simp)
def spec_l1Amount.f (a0 : Int) : Option (Bool) := (spec_l1In.f a0 0 1000000).bind fun t130 => (some t130)
theorem spec_l1Amount.calls (a0 : Int) (r : Bool) (w : World) (h : spec_l1Amount.f a0 = some r) :
 Calls Try.prog 138 #[.int .i64 a0] w fun e w' => e = .returned (.bool r) ∧ Drawn0 w w' := by
 have H : ((spec_l1In.f a0 0 1000000).bind fun t130 => (some t130)) = some r := h
 clear h
 obtain ⟨t130, A20, H⟩ := bO H
 replace H : (some t130) = some r := H
 have A2 := Aside0.mk A20; clear A20
 obtain rfl := Option.some.inj H
 go_enter Try.func138, Try.ntmps138
 go_wp2_with (first | ((with_reducible refine gate_callee (f := 81) rfl ?_); refine goesL_ (some 4) rfl rfl Try.func81 (by kernel_rfl) rfl #[.int .i64 a0, .int .i64 0, .int .i64 1000000] rfl pA ?_; (with_reducible refine (spec_l1In.calls a0 0 1000000 t130 _ A2.out).mono ?_); rintro e w' ⟨rfl, ⟨nd, rfl⟩⟩; refine ⟨_, rfl, ?_⟩))
 go_ret
 exact ⟨by first | rfl | (simp; done) | (simp [*]; done), pW⟩
def spec_l2Op.f (a0 : Int) : Option (Bool) := (spec_l1In.f a0 1 9).bind fun t131 => (if t131 = true then (some true) else ((spec_l1In.f a0 100 1099).bind fun t132 => (some t132)))
theorem spec_l2Op.calls (a0 : Int) (r : Bool) (w : World) (h : spec_l2Op.f a0 = some r) :
 Calls Try.prog 156 #[.int .i64 a0] w fun e w' => e = .returned (.bool r) ∧ Drawn0 w w' := by
 have H : ((spec_l1In.f a0 1 9).bind fun t131 => (if t131 = true then (some true) else ((spec_l1In.f a0 100 1099).bind fun t132 => (some t132)))) = some r := h
 clear h
 obtain ⟨t131, A20, H⟩ := bO H
 replace H : (if t131 = true then (some true) else ((spec_l1In.f a0 100 1099).bind fun t132 => (some t132))) = some r := H
 have A2 := Aside0.mk A20; clear A20
 by_cases c3 : t131 = true
 · subst c3
   have H1 : (some true) = some r := by rw [if_pos rfl] at H; exact H
   clear H; have H := H1; clear H1
   obtain rfl := Option.some.inj H
   go_enter Try.func156, Try.ntmps156
   go_wp2_with (first | ((with_reducible refine gate_callee (f := 81) rfl ?_); refine goesL_ (some 4) rfl rfl Try.func81 (by kernel_rfl) rfl #[.int .i64 a0, .int .i64 1, .int .i64 9] rfl pA ?_; (with_reducible refine (spec_l1In.calls a0 1 9 true _ A2.out).mono ?_); rintro e w' ⟨rfl, ⟨nd, rfl⟩⟩; refine ⟨_, rfl, ?_⟩))
   go_ret
   exact ⟨by first | rfl | (simp; done) | (simp [*]; done), pW⟩
 · replace c3 := Bool.eq_false_iff.mpr c3
   subst c3
   have H1 : ((spec_l1In.f a0 100 1099).bind fun t132 => (some t132)) = some r := by rw [if_neg (show ¬ (false = true) by decide)] at H; exact H
   clear H; have H := H1; clear H1
   obtain ⟨t132, A40, H⟩ := bO H
   replace H : (some t132) = some r := H
   have A4 := Aside0.mk A40; clear A40
   obtain rfl := Option.some.inj H
   go_enter Try.func156, Try.ntmps156
   go_wp2_with (first | ((with_reducible refine gate_callee (f := 81) rfl ?_); refine goesL_ (some 4) rfl rfl Try.func81 (by kernel_rfl) rfl #[.int .i64 a0, .int .i64 1, .int .i64 9] rfl pA ?_; (with_reducible refine (spec_l1In.calls a0 1 9 false _ A2.out).mono ?_); rintro e w' ⟨rfl, ⟨nd, rfl⟩⟩; refine ⟨_, rfl, ?_⟩) | (go_at_call 81; (with_reducible refine (spec_l1In.calls a0 100 1099 t132 _ A4.out).mono ?_); rintro e w' ⟨rfl, ⟨nd, rfl⟩⟩))
   go_ret
   exact ⟨by first | rfl | (simp; done) | (simp [*]; done), pW⟩
def spec_l2Fault.l0 : Nat → List Int → Int → Option (Int)
 | 0, _, _ => none
 | k + 1, x0, x3 => if x3 < (x0.length : Int) then (if 0 ≤ x3 then ((spec_l2Op.f (rd x0 x3)).bind fun t134 => (if t134 = true then (spec_l2Fault.l0 k x0 (wrap64 (x3 + 1))) else (some 1))) else (none)) else (some 0)
def spec_l2Fault.f (k : Nat) (l0 : List Int) : Option (Int) := if (l0.length : Int) > 12 then (some 2) else (spec_l2Fault.l0 k l0 0)
theorem spec_l2Fault.mono_l : ∀ k, (∀ y0 y1, LeO (spec_l2Fault.l0 k y0 y1) (spec_l2Fault.l0 (k + 1) y0 y1))
 | 0 => fun _ _ r h => by simp [spec_l2Fault.l0] at h
 | k + 1 => by
  have ih0 := spec_l2Fault.mono_l k
  · intro y0 y1
    unfold spec_l2Fault.l0
    repeat' with_reducible first | exact ih0 _ _ | exact LeO.refl _ | exact LeO.none _ | refine LeO.ite ?_ ?_ | refine LeO.bind ?_ (fun _ => ?_)
theorem spec_l2Fault.mono : ∀ a0 k, LeO (spec_l2Fault.f k a0) (spec_l2Fault.f (k + 1) a0) := by
 intro a0 k
 have ih0 := spec_l2Fault.mono_l k
 unfold spec_l2Fault.f
 repeat' with_reducible first | exact ih0 _ _ | exact LeO.refl _ | exact LeO.none _ | refine LeO.ite ?_ ?_ | refine LeO.bind ?_ (fun _ => ?_)
theorem spec_l2Fault.calls (k : Nat) (A0 : Option Addr) (c0 : Nat) (l0 : List Int) (r : Int) (w : World) (hr0 : Kd.C (Kd.int .i64) w A0 l0.length l0) (hc0 : l0.length ≤ c0) (h : spec_l2Fault.f k l0 = some r) :
 Calls Try.prog 139 #[.slice A0 l0.length c0] w fun e w' => e = .returned (.int .i64 r) ∧ Drawn0 w w' := by
 have HR0 := Aside0.mk hr0; have HC0 := Aside0.mk hc0; clear hr0 hc0
 have H : (if (l0.length : Int) > 12 then (some 2) else (spec_l2Fault.l0 k l0 0)) = some r := h
 clear h
 by_cases c2 : (l0.length : Int) > 12
 · rw [if_pos c2] at H
   have c2b0 : decide (12 < (l0.length : Int)) = true := decide_eq_true c2
   have c2b1 : decide (12 < l0.length) = true := decide_eq_true (by omega)
   clear c2
   obtain rfl := Option.some.inj H
   go_enter Try.func139, Try.ntmps139
   go_wp2
   go_ret
   exact ⟨by first | rfl | (simp; done) | (simp [*]; done), pW⟩
 · rw [if_neg c2] at H
   have c2b0 : decide (12 < (l0.length : Int)) = false := decide_eq_false c2
   have c2b1 : decide (12 < l0.length) = false := decide_eq_false (by omega)
   clear c2
   have H' := Aside0.mk H
   clear H
   go_enter Try.func139, Try.ntmps139
   go_wp2
   go_loopg [3] k (fun kq v3 w' => ∃ (x3_1 : Int), v3 = .int .i64 x3_1 ∧ Aside0 (spec_l2Fault.l0 kq l0 x3_1 = some r) ∧ Aside0 (kq ≤ k) ∧ Drawn0 w w')
   case atStart => exact ⟨(0), pF, H', ⟨Nat.le_refl _⟩, pW⟩
   case round =>
    clear H'
    (try clear c1); (try clear c2); (try clear c2b0); (try clear c2b1); (try clear p2)
    obtain ⟨x3_1, rfl, HA, HK1, ⟨m1, rfl⟩⟩ := hrel
    cases gk with
    | zero => exact absurd HA.out (by simp [spec_l2Fault.l0])
    | succ k1 =>
     have H := HA.out
     clear HA
     simp only [spec_l2Fault.l0] at H
     by_cases c3 : x3_1 < (l0.length : Int)
     · rw [if_pos c3] at H
       have c3b0 : decide (x3_1 < (l0.length : Int)) = true := decide_eq_true c3
       clear c3
       by_cases c4 : 0 ≤ x3_1
       · rw [if_pos c4] at H
         have c4b0 : decide (0 ≤ x3_1) = true := decide_eq_true c4
         clear c4
         obtain ⟨t134, A50, H⟩ := bO H
         replace H : (if t134 = true then (spec_l2Fault.l0 k1 l0 (wrap64 (x3_1 + 1))) else (some 1)) = some r := H
         have A5 := Aside0.mk A50; clear A50
         by_cases c6 : t134 = true
         · subst c6
           have H1 : (spec_l2Fault.l0 k1 l0 (wrap64 (x3_1 + 1))) = some r := by rw [if_pos rfl] at H; exact H
           clear H; have H := H1; clear H1
           have H' := Aside0.mk H
           clear H
           have p133 : 0 ≤ (x3_1 : Int) := pD
           have q133 : x3_1 < (l0.length : Int) := pD
           obtain ⟨ad133, e133, hx133_0⟩ := Kd.at_int HR0.out x3_1 p133 q133
           cases e133; replace p133 := eq_true p133; replace q133 := eq_true q133
           go_wp2_with (first | ((with_reducible refine gate_callee (f := 156) rfl ?_); refine goesL_ (some 17) rfl rfl Try.func156 (by kernel_rfl) rfl #[.int .i64 (rd l0 x3_1)] rfl pA ?_; (with_reducible refine (spec_l2Op.calls (rd l0 x3_1) true _ A5.out).mono ?_); rintro e w' ⟨rfl, ⟨nd, rfl⟩⟩; refine ⟨_, rfl, ?_⟩))
           go_roundg k1
           case measure => have := HK1.out; omega
           case rel => exact ⟨(wrap64 (x3_1 + 1)), pF, H', ⟨by have := HK1.out; omega⟩, pW⟩
         · replace c6 := Bool.eq_false_iff.mpr c6
           subst c6
           have H1 : (some 1) = some r := by rw [if_neg (show ¬ (false = true) by decide)] at H; exact H
           clear H; have H := H1; clear H1
           obtain rfl := Option.some.inj H
           have p133 : 0 ≤ (x3_1 : Int) := pD
           have q133 : x3_1 < (l0.length : Int) := pD
           obtain ⟨ad133, e133, hx133_0⟩ := Kd.at_int HR0.out x3_1 p133 q133
           cases e133; replace p133 := eq_true p133; replace q133 := eq_true q133
           go_wp2_with (first | ((with_reducible refine gate_callee (f := 156) rfl ?_); refine goesL_ (some 17) rfl rfl Try.func156 (by kernel_rfl) rfl #[.int .i64 (rd l0 x3_1)] rfl pA ?_; (with_reducible refine (spec_l2Op.calls (rd l0 x3_1) false _ A5.out).mono ?_); rintro e w' ⟨rfl, ⟨nd, rfl⟩⟩; refine ⟨_, rfl, ?_⟩))
           go_ret
           exact ⟨by first | rfl | (simp; done) | (simp [*]; done), pW⟩
       · rw [if_neg c4] at H
         exact absurd H (by simp)
     · rw [if_neg c3] at H
       have c3b0 : decide (x3_1 < (l0.length : Int)) = false := decide_eq_false c3
       clear c3
       obtain rfl := Option.some.inj H
       go_wp2
       go_ret
       exact ⟨by first | rfl | (simp; done) | (simp [*]; done), pW⟩
end Go.Proofs.Ythjlbpgiaehjnaa.QFnExactBlockFault
