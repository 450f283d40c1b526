-- written by this session's program (wip/tools/myprint.py)
import Derived.Test.YthjlbpgiaehjnaaQFnExactBlockRootx0
import Derived.Test.YthjlbpgiaehjnaaQFnExactBlockRootx4
-- squeezed
namespace Go.Proofs.Ythjlbpgiaehjnaa.QFnExactBlockRoot
open Go.RowKit Go.Proofs.YthjlbpgiaehjnaaW.PrintWords Go.Proofs.YthjlbpgiaehjnaaW.PrintLast Go.Proofs.YthjlbpgiaehjnaaW.PrintMore
attribute [local go_sem] max2_int min2_int max_two min_two max_three min_three max_four min_four   -- for this text's walks alone
set_option linter.unusedVariables false
set_option linter.unusedSimpArgs false
set_option maxHeartbeats 8000000
set_option maxRecDepth 100000
mutual
def spec_l3In.j0 : Nat → List (S34) → Int → Bool → Option (Int)
 | 0, _, _, _ => none
 | k + 1, x0, x1, x23 => if x23 = true then (some 3) else (if 0 ≤ x1 then (if x1 < (x0.length : Int) then (if (((rd_T34 x0 x1).f2).length : Int) > 8 then (some 2) else ((spec_l1All.f k ((rd_T34 x0 x1).f2) 0 9999).bind fun t214 => (if t214 = true then (spec_l3In.l0 k x0 x1 0) else (some 3)))) else (none)) else (none))
def spec_l3In.l0 : Nat → List (S34) → Int → Int → Option (Int)
 | 0, _, _, _ => none
 | k + 1, x0, x1, x6 => if x6 < x1 then (if 0 ≤ x6 then (if x6 < (x0.length : Int) then (if 0 ≤ x1 then (if x1 < (x0.length : Int) then (if ((rd_T34 x0 x6).f0) = ((rd_T34 x0 x1).f0) then (if ((rd_T34 x0 x6).f1) = ((rd_T34 x0 x1).f1) then (some 6) else (spec_l3In.l0 k x0 x1 (wrap64 (x6 + 1)))) else (spec_l3In.l0 k x0 x1 (wrap64 (x6 + 1)))) else (none)) else (none)) else (none)) else (none)) else (some 0)
end
def spec_l3In.f (k : Nat) (l0 : List (S34)) (a1 : Int) : Option (Int) := if 0 ≤ a1 then (if a1 < (l0.length : Int) then ((spec_l1In.f ((rd_T34 l0 a1).f0) 0 2147483646).bind fun t209 => (if t209 = true then ((spec_l1In.f ((rd_T34 l0 a1).f1) 0 3).bind fun t211 => (spec_l3In.j0 k l0 a1 (!t211))) else (spec_l3In.j0 k l0 a1 true))) else (none)) else (none)
theorem spec_l3In.mono_l : ∀ k, (∀ y0 y1 y2, LeO (spec_l3In.j0 k y0 y1 y2) (spec_l3In.j0 (k + 1) y0 y1 y2)) ∧ (∀ y0 y1 y2, LeO (spec_l3In.l0 k y0 y1 y2) (spec_l3In.l0 (k + 1) y0 y1 y2))
 | 0 => ⟨fun _ _ _ r h => by simp [spec_l3In.j0] at h, fun _ _ _ r h => by simp [spec_l3In.l0] at h⟩
 | k + 1 => by
  obtain ⟨ih0, ih1⟩ := spec_l3In.mono_l k
  refine ⟨?_, ?_⟩
  · intro y0 y1 y2
    unfold spec_l3In.j0
    repeat' with_reducible first | exact ih0 _ _ _ | exact ih1 _ _ _ | exact spec_l1All.mono _ _ _ _ | exact LeO.refl _ | exact LeO.none _ | refine LeO.ite ?_ ?_ | refine LeO.bind ?_ (fun _ => ?_)
  · intro y0 y1 y2
    unfold spec_l3In.l0
    repeat' with_reducible first | exact ih0 _ _ _ | exact ih1 _ _ _ | exact spec_l1All.mono _ _ _ _ | exact LeO.refl _ | exact LeO.none _ | refine LeO.ite ?_ ?_ | refine LeO.bind ?_ (fun _ => ?_)
theorem spec_l3In.mono : ∀ a0 a1 k, LeO (spec_l3In.f k a0 a1) (spec_l3In.f (k + 1) a0 a1) := by
 intro a0 a1 k
 obtain ⟨ih0, ih1⟩ := spec_l3In.mono_l k
 unfold spec_l3In.f
 repeat' with_reducible first | exact ih0 _ _ _ | exact ih1 _ _ _ | exact spec_l1All.mono _ _ _ _ | exact LeO.refl _ | exact LeO.none _ | refine LeO.ite ?_ ?_ | refine LeO.bind ?_ (fun _ => ?_)
theorem spec_l3In.calls (k : Nat) (A0 : Option Addr) (c0 : Nat) (l0 : List (S34)) (a1 : Int) (r : Int) (w : World) (hr0 : Kd.C k34 w A0 l0.length l0) (hc0 : l0.length ≤ c0) (h : spec_l3In.f k l0 a1 = some r) :
 Calls Try.prog 101 #[.slice A0 l0.length c0, .int .i64 a1] w fun e w' => e = .returned (.int .i64 r) ∧ Drawn0 w w' := by
 have hfd34_0 : ∀ (c0 c1 c2 : Value) (w : World), (Instr.field 34 (.agg #[c0, c1, c2]) 0).run Try.prog w = .ok c0 w := by intro c0 c1 c2 w; kernel_rfl
 have hfd34_1 : ∀ (c0 c1 c2 : Value) (w : World), (Instr.field 34 (.agg #[c0, c1, c2]) 1).run Try.prog w = .ok c1 w := by intro c0 c1 c2 w; kernel_rfl
 have hu34 := Try.underlying34
 have HR0 := am hr0; have HC0 := am hc0; clear hr0 hc0
 have H : (if 0 ≤ a1 then (if a1 < (l0.length : Int) then ((spec_l1In.f ((rd_T34 l0 a1).f0) 0 2147483646).bind fun t209 => (if t209 = true then ((spec_l1In.f ((rd_T34 l0 a1).f1) 0 3).bind fun t211 => (spec_l3In.j0 k l0 a1 (!t211))) else (spec_l3In.j0 k l0 a1 true))) else (none)) else (none)) = some r := h
 clear h
 by_cases c3 : 0 ≤ a1
 · rw [if_pos c3] at H
   have c3b0 : decide (0 ≤ a1) = true := dt c3
   clear c3
   by_cases c4 : a1 < (l0.length : Int)
   · rw [if_pos c4] at H
     have c4b0 : decide (a1 < (l0.length : Int)) = true := dt c4
     clear c4; have HC5 := am H; clear H
     have p207 : 0 ≤ (a1 : Int) := pD
     have q207 : a1 < (l0.length : Int) := pD
     obtain ⟨ad207, A207_2, c207_2, e207, hx207_0, hx207_1, hx207_2, hl207_2, hi207_2⟩ := at_T34 HR0.out a1 p207 q207
     cases e207; have HR207_2 := am hi207_2; have HC207_2 := am hl207_2; clear hi207_2 hl207_2; replace p207 := eq_true p207; replace q207 := eq_true q207
     go_enter Try.func101, Try.ntmps101
     go_upto_region 2 with (fail)
     repeat (go_quiet (fail); go_upto_region 2 with (fail))
     go_cut [23] (fun v23 wc => ∃ (kq : Nat) (x23_4 : Bool), v23 = .bool x23_4 ∧ Aside0 (spec_l3In.j0 kq l0 a1 x23_4 = some r) ∧ Aside0 (kq ≤ k) ∧ Drawn0 w wc)
     case first =>
      have H := HC5.out
      clear HC5
      obtain ⟨t209, A60, H⟩ := bO H
      replace H : (if t209 = true then ((spec_l1In.f ((rd_T34 l0 a1).f1) 0 3).bind fun t211 => (spec_l3In.j0 k l0 a1 (!t211))) else (spec_l3In.j0 k l0 a1 true)) = some r := H
      have A6 := am A60; clear A60
      by_cases c7 : t209 = true
      · subst c7
        have H1 : ((spec_l1In.f ((rd_T34 l0 a1).f1) 0 3).bind fun t211 => (spec_l3In.j0 k l0 a1 (!t211))) = some r := by rw [if_pos rfl] at H; exact H
        clear H; have H := H1; clear H1
        obtain ⟨t211, A80, H⟩ := bO H
        replace H : (spec_l3In.j0 k l0 a1 (!t211)) = some r := H
        have A8 := am A80; clear A80
        have H' := am H
        clear H
        have p208 : 0 ≤ (a1 : Int) := pD
        have q208 : a1 < (l0.length : Int) := pD
        obtain ⟨ad208, A208_2, c208_2, e208, hx208_0, hx208_1, hx208_2, hl208_2, hi208_2⟩ := at_T34 HR0.out a1 p208 q208
        obtain rfl : ad207 = ad208 := (by injection e208)
        have HR208_2 := am hi208_2; have HC208_2 := am hl208_2; clear hi208_2 hl208_2; replace p208 := eq_true p208; replace q208 := eq_true q208
        go_wp2_with (first | (go_at_call 81; (with_reducible refine (spec_l1In.calls ((rd_T34 l0 a1).f0) 0 2147483646 true _ A6.out).mono ?_); rintro e w' ⟨rfl, ⟨nd, rfl⟩⟩; (try first | exact ⟨rfl, _, World.drewN_drewN _ _ _⟩ | exact ⟨rfl, _, Eq.trans (World.drewN_drewN _ _ _) (congrArg (World.drewN _) (Nat.add_assoc _ _ _))⟩); have p210 : 0 ≤ (a1 : Int) := pD; have q210 : a1 < (l0.length : Int) := pD; obtain ⟨ad210, A210_2, c210_2, e210, hx210_0, hx210_1, hx210_2, hl210_2, hi210_2⟩ := at_T34 HR0.out a1 p210 q210; obtain rfl : ad207 = ad210 := (by injection e210); have HR210_2 := am hi210_2; have HC210_2 := am hl210_2; clear hi210_2 hl210_2; replace p210 := eq_true p210; replace q210 := eq_true q210; have ea_ := sj (hx208_2.symm.trans hx210_2); injection ea_ with ea_ en_ ec_; subst ea_; subst ec_; clear en_) | (go_at_call 81; (with_reducible refine (spec_l1In.calls ((rd_T34 l0 a1).f1) 0 3 t211 _ A8.out).mono ?_); rintro e w' ⟨rfl, ⟨nd, rfl⟩⟩; (try first | exact ⟨rfl, _, World.drewN_drewN _ _ _⟩ | exact ⟨rfl, _, Eq.trans (World.drewN_drewN _ _ _) (congrArg (World.drewN _) (Nat.add_assoc _ _ _))⟩)))
        repeat (go_quiet (first | (go_at_call 81; (with_reducible refine (spec_l1In.calls ((rd_T34 l0 a1).f0) 0 2147483646 true _ A6.out).mono ?_); rintro e w' ⟨rfl, ⟨nd, rfl⟩⟩; (try first | exact ⟨rfl, _, World.drewN_drewN _ _ _⟩ | exact ⟨rfl, _, Eq.trans (World.drewN_drewN _ _ _) (congrArg (World.drewN _) (Nat.add_assoc _ _ _))⟩); have p210 : 0 ≤ (a1 : Int) := pD; have q210 : a1 < (l0.length : Int) := pD; obtain ⟨ad210, A210_2, c210_2, e210, hx210_0, hx210_1, hx210_2, hl210_2, hi210_2⟩ := at_T34 HR0.out a1 p210 q210; obtain rfl : ad207 = ad210 := (by injection e210); have HR210_2 := am hi210_2; have HC210_2 := am hl210_2; clear hi210_2 hl210_2; replace p210 := eq_true p210; replace q210 := eq_true q210; have ea_ := sj (hx208_2.symm.trans hx210_2); injection ea_ with ea_ en_ ec_; subst ea_; subst ec_; clear en_) | (go_at_call 81; (with_reducible refine (spec_l1In.calls ((rd_T34 l0 a1).f1) 0 3 t211 _ A8.out).mono ?_); rintro e w' ⟨rfl, ⟨nd, rfl⟩⟩; (try first | exact ⟨rfl, _, World.drewN_drewN _ _ _⟩ | exact ⟨rfl, _, Eq.trans (World.drewN_drewN _ _ _) (congrArg (World.drewN _) (Nat.add_assoc _ _ _))⟩))); try go_wp2_with (first | (go_at_call 81; (with_reducible refine (spec_l1In.calls ((rd_T34 l0 a1).f0) 0 2147483646 true _ A6.out).mono ?_); rintro e w' ⟨rfl, ⟨nd, rfl⟩⟩; (try first | exact ⟨rfl, _, World.drewN_drewN _ _ _⟩ | exact ⟨rfl, _, Eq.trans (World.drewN_drewN _ _ _) (congrArg (World.drewN _) (Nat.add_assoc _ _ _))⟩); have p210 : 0 ≤ (a1 : Int) := pD; have q210 : a1 < (l0.length : Int) := pD; obtain ⟨ad210, A210_2, c210_2, e210, hx210_0, hx210_1, hx210_2, hl210_2, hi210_2⟩ := at_T34 HR0.out a1 p210 q210; obtain rfl : ad207 = ad210 := (by injection e210); have HR210_2 := am hi210_2; have HC210_2 := am hl210_2; clear hi210_2 hl210_2; replace p210 := eq_true p210; replace q210 := eq_true q210; have ea_ := sj (hx208_2.symm.trans hx210_2); injection ea_ with ea_ en_ ec_; subst ea_; subst ec_; clear en_) | (go_at_call 81; (with_reducible refine (spec_l1In.calls ((rd_T34 l0 a1).f1) 0 3 t211 _ A8.out).mono ?_); rintro e w' ⟨rfl, ⟨nd, rfl⟩⟩; (try first | exact ⟨rfl, _, World.drewN_drewN _ _ _⟩ | exact ⟨rfl, _, Eq.trans (World.drewN_drewN _ _ _) (congrArg (World.drewN _) (Nat.add_assoc _ _ _))⟩))))
        go_meet
        case rel => exact ⟨_, (!t211), pF, H', ⟨by first | omega | exact Nat.le_refl _⟩, pW⟩
      · replace c7 := Bool.eq_false_iff.mpr c7
        subst c7
        have H1 : (spec_l3In.j0 k l0 a1 true) = some r := by rw [if_neg (show ¬ (false = true) by decide)] at H; exact H
        clear H; have H := H1; clear H1
        have H' := am H
        clear H
        have p208 : 0 ≤ (a1 : Int) := pD
        have q208 : a1 < (l0.length : Int) := pD
        obtain ⟨ad208, A208_2, c208_2, e208, hx208_0, hx208_1, hx208_2, hl208_2, hi208_2⟩ := at_T34 HR0.out a1 p208 q208
        obtain rfl : ad207 = ad208 := (by injection e208)
        have HR208_2 := am hi208_2; have HC208_2 := am hl208_2; clear hi208_2 hl208_2; replace p208 := eq_true p208; replace q208 := eq_true q208
        go_wp2_with (first | (go_at_call 81; (with_reducible refine (spec_l1In.calls ((rd_T34 l0 a1).f0) 0 2147483646 false _ A6.out).mono ?_); rintro e w' ⟨rfl, ⟨nd, rfl⟩⟩; (try first | exact ⟨rfl, _, World.drewN_drewN _ _ _⟩ | exact ⟨rfl, _, Eq.trans (World.drewN_drewN _ _ _) (congrArg (World.drewN _) (Nat.add_assoc _ _ _))⟩)))
        repeat (go_quiet (first | (go_at_call 81; (with_reducible refine (spec_l1In.calls ((rd_T34 l0 a1).f0) 0 2147483646 false _ A6.out).mono ?_); rintro e w' ⟨rfl, ⟨nd, rfl⟩⟩; (try first | exact ⟨rfl, _, World.drewN_drewN _ _ _⟩ | exact ⟨rfl, _, Eq.trans (World.drewN_drewN _ _ _) (congrArg (World.drewN _) (Nat.add_assoc _ _ _))⟩))); try go_wp2_with (first | (go_at_call 81; (with_reducible refine (spec_l1In.calls ((rd_T34 l0 a1).f0) 0 2147483646 false _ A6.out).mono ?_); rintro e w' ⟨rfl, ⟨nd, rfl⟩⟩; (try first | exact ⟨rfl, _, World.drewN_drewN _ _ _⟩ | exact ⟨rfl, _, Eq.trans (World.drewN_drewN _ _ _) (congrArg (World.drewN _) (Nat.add_assoc _ _ _))⟩))))
        go_meet
        case rel => exact ⟨_, (true), pF, H', ⟨by first | omega | exact Nat.le_refl _⟩, pW⟩
     case rest =>
      clear HC5; (try clear c1); (try clear c2); (try clear c3); (try clear c3b0); (try clear c4); (try clear c4b0); (try clear hx207_0); (try clear hx207_1); (try clear hx207_2); (try clear p207); (try clear q207)
      obtain ⟨kq, x23_4, rfl, HA, HJ4, ⟨mc4, rfl⟩⟩ := hcut
      cases kq with
      | zero => exact absurd HA.out (by simp [spec_l3In.j0])
      | succ kj4 =>
       have H := HA.out
       clear HA
       simp only [spec_l3In.j0] at H
       by_cases c9 : x23_4 = true
       · subst c9
         have H1 : (some 3) = some r := by rw [if_pos rfl] at H; exact H
         clear H; have H := H1; clear H1
         obtain rfl := sj H
         go_wp2
         repeat (go_quiet (fail); try go_wp2)
         go_ret
         exact ⟨by first | rfl | (simp; done) | (simp [*]; done), pW⟩
       · replace c9 := Bool.eq_false_iff.mpr c9
         subst c9
         have H1 : (if 0 ≤ a1 then (if a1 < (l0.length : Int) then (if (((rd_T34 l0 a1).f2).length : Int) > 8 then (some 2) else ((spec_l1All.f kj4 ((rd_T34 l0 a1).f2) 0 9999).bind fun t214 => (if t214 = true then (spec_l3In.l0 kj4 l0 a1 0) else (some 3)))) else (none)) else (none)) = some r := by rw [if_neg (show ¬ (false = true) by decide)] at H; exact H
         clear H; have H := H1; clear H1
         by_cases c10 : 0 ≤ a1
         · rw [if_pos c10] at H
           have c10b0 : decide (0 ≤ a1) = true := dt c10
           clear c10
           by_cases c11 : a1 < (l0.length : Int)
           · rw [if_pos c11] at H
             have c11b0 : decide (a1 < (l0.length : Int)) = true := dt c11
             clear c11
             by_cases c12 : (((rd_T34 l0 a1).f2).length : Int) > 8
             · rw [if_pos c12] at H
               have c12b0 : decide (8 < (((rd_T34 l0 a1).f2).length : Int)) = true := dt c12
               have c12b1 : decide (8 < ((rd_T34 l0 a1).f2).length) = true := dt (by omega)
               clear c12
               obtain rfl := sj H
               have p212 : 0 ≤ (a1 : Int) := pD
               have q212 : a1 < (l0.length : Int) := pD
               obtain ⟨ad212, A212_2, c212_2, e212, hx212_0, hx212_1, hx212_2, hl212_2, hi212_2⟩ := at_T34 HR0.out a1 p212 q212
               obtain rfl : ad207 = ad212 := (by injection e212)
               have HR212_2 := am hi212_2; have HC212_2 := am hl212_2; clear hi212_2 hl212_2; replace p212 := eq_true p212; replace q212 := eq_true q212
               go_wp2
               repeat (go_quiet (fail); try go_wp2)
               go_ret
               exact ⟨by first | rfl | (simp; done) | (simp [*]; done), pW⟩
             · rw [if_neg c12] at H
               have c12b0 : decide (8 < (((rd_T34 l0 a1).f2).length : Int)) = false := decide_eq_false c12
               have c12b1 : decide (8 < ((rd_T34 l0 a1).f2).length) = false := decide_eq_false (by omega)
               clear c12
               obtain ⟨t214, A130, H⟩ := bO H
               replace H : (if t214 = true then (spec_l3In.l0 kj4 l0 a1 0) else (some 3)) = some r := H
               have A13 := am A130; clear A130
               by_cases c14 : t214 = true
               · subst c14
                 have H1 : (spec_l3In.l0 kj4 l0 a1 0) = some r := by rw [if_pos rfl] at H; exact H
                 clear H; have H := H1; clear H1
                 have H' := am H
                 clear H
                 have p212 : 0 ≤ (a1 : Int) := pD
                 have q212 : a1 < (l0.length : Int) := pD
                 obtain ⟨ad212, A212_2, c212_2, e212, hx212_0, hx212_1, hx212_2, hl212_2, hi212_2⟩ := at_T34 HR0.out a1 p212 q212
                 obtain rfl : ad207 = ad212 := (by injection e212)
                 have HR212_2 := am hi212_2; have HC212_2 := am hl212_2; clear hi212_2 hl212_2; replace p212 := eq_true p212; replace q212 := eq_true q212
                 have p213 : 0 ≤ (a1 : Int) := pD
                 have q213 : a1 < (l0.length : Int) := pD
                 obtain ⟨ad213, A213_2, c213_2, e213, hx213_0, hx213_1, hx213_2, hl213_2, hi213_2⟩ := at_T34 HR0.out a1 p213 q213
                 obtain rfl : ad207 = ad213 := (by injection e213)
                 have HR213_2 := am hi213_2; have HC213_2 := am hl213_2; clear hi213_2 hl213_2; replace p213 := eq_true p213; replace q213 := eq_true q213
                 have ea_ := sj (hx212_2.symm.trans hx213_2)
                 injection ea_ with ea_ en_ ec_
                 subst ea_; subst ec_; clear en_
                 go_wp2_with (first | (go_at_call 137; (with_reducible refine (spec_l1All.calls kj4 _ _ ((rd_T34 l0 a1).f2) 0 9999 true _ ?side1 ?side2 A13.out).mono ?_); (case side1 => exact pC HR213_2.out); (case side2 => exact HC213_2.out); rintro e w' ⟨rfl, ⟨nd, rfl⟩⟩; (try first | exact ⟨rfl, _, World.drewN_drewN _ _ _⟩ | exact ⟨rfl, _, Eq.trans (World.drewN_drewN _ _ _) (congrArg (World.drewN _) (Nat.add_assoc _ _ _))⟩)))
                 repeat (go_quiet (first | (go_at_call 137; (with_reducible refine (spec_l1All.calls kj4 _ _ ((rd_T34 l0 a1).f2) 0 9999 true _ ?side1 ?side2 A13.out).mono ?_); (case side1 => exact pC HR213_2.out); (case side2 => exact HC213_2.out); rintro e w' ⟨rfl, ⟨nd, rfl⟩⟩; (try first | exact ⟨rfl, _, World.drewN_drewN _ _ _⟩ | exact ⟨rfl, _, Eq.trans (World.drewN_drewN _ _ _) (congrArg (World.drewN _) (Nat.add_assoc _ _ _))⟩))); try go_wp2_with (first | (go_at_call 137; (with_reducible refine (spec_l1All.calls kj4 _ _ ((rd_T34 l0 a1).f2) 0 9999 true _ ?side1 ?side2 A13.out).mono ?_); (case side1 => exact pC HR213_2.out); (case side2 => exact HC213_2.out); rintro e w' ⟨rfl, ⟨nd, rfl⟩⟩; (try first | exact ⟨rfl, _, World.drewN_drewN _ _ _⟩ | exact ⟨rfl, _, Eq.trans (World.drewN_drewN _ _ _) (congrArg (World.drewN _) (Nat.add_assoc _ _ _))⟩))))
                 go_loopg [6] kj4 (fun kq v6 w' => ∃ (x6_2 : Int), v6 = .int .i64 x6_2 ∧ Aside0 (spec_l3In.l0 kq l0 a1 x6_2 = some r) ∧ Aside0 (kq ≤ kj4) ∧ Drawn0 w w')
                 case atStart => exact ⟨(0), pF, H', ⟨Nat.le_refl _⟩, pW⟩
                 case round =>
                  clear H'
                  (try clear c1); (try clear c2); (try clear c3); (try clear c3b0); (try clear c4); (try clear c4b0); (try clear c9); (try clear c10); (try clear c10b0); (try clear c11); (try clear c11b0); (try clear c12); (try clear c12b0); (try clear c12b1); (try clear c14); (try clear hx207_0); (try clear hx207_1); (try clear hx207_2); (try clear hx212_0); (try clear hx212_1); (try clear hx212_2); (try clear hx213_0); (try clear hx213_1); (try clear hx213_2); (try clear p207); (try clear p212); (try clear p213); (try clear q207); (try clear q212); (try clear q213)
                  obtain ⟨x6_2, rfl, HA, HK2, ⟨m2, rfl⟩⟩ := hrel
                  cases gk with
                  | zero => exact absurd HA.out (by simp [spec_l3In.l0])
                  | succ k2 =>
                   have H := HA.out
                   clear HA
                   simp only [spec_l3In.l0] at H
                   by_cases c15 : x6_2 < a1
                   · rw [if_pos c15] at H
                     have c15b0 : decide (x6_2 < a1) = true := dt c15
                     clear c15
                     by_cases c16 : 0 ≤ x6_2
                     · rw [if_pos c16] at H
                       have c16b0 : decide (0 ≤ x6_2) = true := dt c16
                       clear c16
                       by_cases c17 : x6_2 < (l0.length : Int)
                       · rw [if_pos c17] at H
                         have c17b0 : decide (x6_2 < (l0.length : Int)) = true := dt c17
                         clear c17
                         by_cases c18 : 0 ≤ a1
                         · rw [if_pos c18] at H
                           have c18b0 : decide (0 ≤ a1) = true := dt c18
                           clear c18
                           by_cases c19 : a1 < (l0.length : Int)
                           · rw [if_pos c19] at H
                             have c19b0 : decide (a1 < (l0.length : Int)) = true := dt c19
                             clear c19
                             by_cases c20 : ((rd_T34 l0 x6_2).f0) = ((rd_T34 l0 a1).f0)
                             · rw [if_pos c20] at H
                               have c20b0 : (((rd_T34 l0 x6_2).f0) == ((rd_T34 l0 a1).f0)) = true := beq_iff_eq.mpr c20
                               have c20b1 : (((rd_T34 l0 x6_2).f0) != ((rd_T34 l0 a1).f0)) = false := bne_eq_false_iff_eq.mpr c20
                               clear c20
                               by_cases c21 : ((rd_T34 l0 x6_2).f1) = ((rd_T34 l0 a1).f1)
                               · rw [if_pos c21] at H
                                 have c21b0 : (((rd_T34 l0 x6_2).f1) == ((rd_T34 l0 a1).f1)) = true := beq_iff_eq.mpr c21
                                 have c21b1 : (((rd_T34 l0 x6_2).f1) != ((rd_T34 l0 a1).f1)) = false := bne_eq_false_iff_eq.mpr c21
                                 clear c21
                                 obtain rfl := sj H
                                 have p215 : 0 ≤ (x6_2 : Int) := pD
                                 have q215 : x6_2 < (l0.length : Int) := pD
                                 obtain ⟨ad215, A215_2, c215_2, e215, hx215_0, hx215_1, hx215_2, hl215_2, hi215_2⟩ := at_T34 HR0.out x6_2 p215 q215
                                 obtain rfl : ad207 = ad215 := (by injection e215)
                                 have HR215_2 := am hi215_2; have HC215_2 := am hl215_2; clear hi215_2 hl215_2; replace p215 := eq_true p215; replace q215 := eq_true q215
                                 have p216 : 0 ≤ (a1 : Int) := pD
                                 have q216 : a1 < (l0.length : Int) := pD
                                 obtain ⟨ad216, A216_2, c216_2, e216, hx216_0, hx216_1, hx216_2, hl216_2, hi216_2⟩ := at_T34 HR0.out a1 p216 q216
                                 obtain rfl : ad207 = ad216 := (by injection e216)
                                 have HR216_2 := am hi216_2; have HC216_2 := am hl216_2; clear hi216_2 hl216_2; replace p216 := eq_true p216; replace q216 := eq_true q216
                                 have p217 : 0 ≤ (x6_2 : Int) := pD
                                 have q217 : x6_2 < (l0.length : Int) := pD
                                 obtain ⟨ad217, A217_2, c217_2, e217, hx217_0, hx217_1, hx217_2, hl217_2, hi217_2⟩ := at_T34 HR0.out x6_2 p217 q217
                                 obtain rfl : ad207 = ad217 := (by injection e217)
                                 have HR217_2 := am hi217_2; have HC217_2 := am hl217_2; clear hi217_2 hl217_2; replace p217 := eq_true p217; replace q217 := eq_true q217
                                 have ea_ := sj (hx215_2.symm.trans hx217_2)
                                 injection ea_ with ea_ en_ ec_
                                 subst ea_; subst ec_; clear en_
                                 have p218 : 0 ≤ (a1 : Int) := pD
                                 have q218 : a1 < (l0.length : Int) := pD
                                 obtain ⟨ad218, A218_2, c218_2, e218, hx218_0, hx218_1, hx218_2, hl218_2, hi218_2⟩ := at_T34 HR0.out a1 p218 q218
                                 obtain rfl : ad207 = ad218 := (by injection e218)
                                 have HR218_2 := am hi218_2; have HC218_2 := am hl218_2; clear hi218_2 hl218_2; replace p218 := eq_true p218; replace q218 := eq_true q218
                                 have ea_ := sj (hx216_2.symm.trans hx218_2)
                                 injection ea_ with ea_ en_ ec_
                                 subst ea_; subst ec_; clear en_
                                 go_wp2
                                 repeat (go_quiet (fail); try go_wp2)
                                 go_ret
                                 exact ⟨by first | rfl | (simp; done) | (simp [*]; done), pW⟩
                               · rw [if_neg c21] at H
                                 have c21b0 : (((rd_T34 l0 x6_2).f1) == ((rd_T34 l0 a1).f1)) = false := beq_eq_false_iff_ne.mpr c21
                                 have c21b1 : (((rd_T34 l0 x6_2).f1) != ((rd_T34 l0 a1).f1)) = true := bne_iff_ne.mpr c21
                                 have H' := am H
                                 clear H
                                 have p215 : 0 ≤ (x6_2 : Int) := pD
                                 have q215 : x6_2 < (l0.length : Int) := pD
                                 obtain ⟨ad215, A215_2, c215_2, e215, hx215_0, hx215_1, hx215_2, hl215_2, hi215_2⟩ := at_T34 HR0.out x6_2 p215 q215
                                 obtain rfl : ad207 = ad215 := (by injection e215)
                                 have HR215_2 := am hi215_2; have HC215_2 := am hl215_2; clear hi215_2 hl215_2; replace p215 := eq_true p215; replace q215 := eq_true q215
                                 have p216 : 0 ≤ (a1 : Int) := pD
                                 have q216 : a1 < (l0.length : Int) := pD
                                 obtain ⟨ad216, A216_2, c216_2, e216, hx216_0, hx216_1, hx216_2, hl216_2, hi216_2⟩ := at_T34 HR0.out a1 p216 q216
                                 obtain rfl : ad207 = ad216 := (by injection e216)
                                 have HR216_2 := am hi216_2; have HC216_2 := am hl216_2; clear hi216_2 hl216_2; replace p216 := eq_true p216; replace q216 := eq_true q216
                                 have p217 : 0 ≤ (x6_2 : Int) := pD
                                 have q217 : x6_2 < (l0.length : Int) := pD
                                 obtain ⟨ad217, A217_2, c217_2, e217, hx217_0, hx217_1, hx217_2, hl217_2, hi217_2⟩ := at_T34 HR0.out x6_2 p217 q217
                                 obtain rfl : ad207 = ad217 := (by injection e217)
                                 have HR217_2 := am hi217_2; have HC217_2 := am hl217_2; clear hi217_2 hl217_2; replace p217 := eq_true p217; replace q217 := eq_true q217
                                 have ea_ := sj (hx215_2.symm.trans hx217_2)
                                 injection ea_ with ea_ en_ ec_
                                 subst ea_; subst ec_; clear en_
                                 have p218 : 0 ≤ (a1 : Int) := pD
                                 have q218 : a1 < (l0.length : Int) := pD
                                 obtain ⟨ad218, A218_2, c218_2, e218, hx218_0, hx218_1, hx218_2, hl218_2, hi218_2⟩ := at_T34 HR0.out a1 p218 q218
                                 obtain rfl : ad207 = ad218 := (by injection e218)
                                 have HR218_2 := am hi218_2; have HC218_2 := am hl218_2; clear hi218_2 hl218_2; replace p218 := eq_true p218; replace q218 := eq_true q218
                                 have ea_ := sj (hx216_2.symm.trans hx218_2)
                                 injection ea_ with ea_ en_ ec_
                                 subst ea_; subst ec_; clear en_
                                 go_wp2
                                 repeat (go_quiet (fail); try go_wp2)
                                 go_roundg k2
                                 case measure => have := HJ4.out; have := HK2.out; omega
                                 case rel => exact ⟨(wrap64 (x6_2 + 1)), pF, H', ⟨by have := HJ4.out; have := HK2.out; omega⟩, pW⟩
                             · rw [if_neg c20] at H
                               have c20b0 : (((rd_T34 l0 x6_2).f0) == ((rd_T34 l0 a1).f0)) = false := beq_eq_false_iff_ne.mpr c20
                               have c20b1 : (((rd_T34 l0 x6_2).f0) != ((rd_T34 l0 a1).f0)) = true := bne_iff_ne.mpr c20
                               have H' := am H
                               clear H
                               have p215 : 0 ≤ (x6_2 : Int) := pD
                               have q215 : x6_2 < (l0.length : Int) := pD
                               obtain ⟨ad215, A215_2, c215_2, e215, hx215_0, hx215_1, hx215_2, hl215_2, hi215_2⟩ := at_T34 HR0.out x6_2 p215 q215
                               obtain rfl : ad207 = ad215 := (by injection e215)
                               have HR215_2 := am hi215_2; have HC215_2 := am hl215_2; clear hi215_2 hl215_2; replace p215 := eq_true p215; replace q215 := eq_true q215
                               have p216 : 0 ≤ (a1 : Int) := pD
                               have q216 : a1 < (l0.length : Int) := pD
                               obtain ⟨ad216, A216_2, c216_2, e216, hx216_0, hx216_1, hx216_2, hl216_2, hi216_2⟩ := at_T34 HR0.out a1 p216 q216
                               obtain rfl : ad207 = ad216 := (by injection e216)
                               have HR216_2 := am hi216_2; have HC216_2 := am hl216_2; clear hi216_2 hl216_2; replace p216 := eq_true p216; replace q216 := eq_true q216
                               go_wp2
                               repeat (go_quiet (fail); try go_wp2)
                               go_roundg k2
                               case measure => have := HJ4.out; have := HK2.out; omega
                               case rel => exact ⟨(wrap64 (x6_2 + 1)), pF, H', ⟨by have := HJ4.out; have := HK2.out; omega⟩, pW⟩
                           · rw [if_neg c19] at H
                             exact absurd H (by simp)
                         · rw [if_neg c18] at H
                           exact absurd H (by simp)
                       · rw [if_neg c17] at H
                         exact absurd H (by simp)
                     · rw [if_neg c16] at H
                       exact absurd H (by simp)
                   · rw [if_neg c15] at H
                     have c15b0 : decide (x6_2 < a1) = false := decide_eq_false c15
                     clear c15
                     obtain rfl := sj H
                     go_wp2
                     repeat (go_quiet (fail); try go_wp2)
                     go_ret
                     exact ⟨by first | rfl | (simp; done) | (simp [*]; done), pW⟩
               · replace c14 := Bool.eq_false_iff.mpr c14
                 subst c14
                 have H1 : (some 3) = some r := by rw [if_neg (show ¬ (false = true) by decide)] at H; exact H
                 clear H; have H := H1; clear H1
                 obtain rfl := sj H
                 have p212 : 0 ≤ (a1 : Int) := pD
                 have q212 : a1 < (l0.length : Int) := pD
                 obtain ⟨ad212, A212_2, c212_2, e212, hx212_0, hx212_1, hx212_2, hl212_2, hi212_2⟩ := at_T34 HR0.out a1 p212 q212
                 obtain rfl : ad207 = ad212 := (by injection e212)
                 have HR212_2 := am hi212_2; have HC212_2 := am hl212_2; clear hi212_2 hl212_2; replace p212 := eq_true p212; replace q212 := eq_true q212
                 have p213 : 0 ≤ (a1 : Int) := pD
                 have q213 : a1 < (l0.length : Int) := pD
                 obtain ⟨ad213, A213_2, c213_2, e213, hx213_0, hx213_1, hx213_2, hl213_2, hi213_2⟩ := at_T34 HR0.out a1 p213 q213
                 obtain rfl : ad207 = ad213 := (by injection e213)
                 have HR213_2 := am hi213_2; have HC213_2 := am hl213_2; clear hi213_2 hl213_2; replace p213 := eq_true p213; replace q213 := eq_true q213
                 have ea_ := sj (hx212_2.symm.trans hx213_2)
                 injection ea_ with ea_ en_ ec_
                 subst ea_; subst ec_; clear en_
                 go_wp2_with (first | (go_at_call 137; (with_reducible refine (spec_l1All.calls kj4 _ _ ((rd_T34 l0 a1).f2) 0 9999 false _ ?side1 ?side2 A13.out).mono ?_); (case side1 => exact pC HR213_2.out); (case side2 => exact HC213_2.out); rintro e w' ⟨rfl, ⟨nd, rfl⟩⟩; (try first | exact ⟨rfl, _, World.drewN_drewN _ _ _⟩ | exact ⟨rfl, _, Eq.trans (World.drewN_drewN _ _ _) (congrArg (World.drewN _) (Nat.add_assoc _ _ _))⟩)))
                 repeat (go_quiet (first | (go_at_call 137; (with_reducible refine (spec_l1All.calls kj4 _ _ ((rd_T34 l0 a1).f2) 0 9999 false _ ?side1 ?side2 A13.out).mono ?_); (case side1 => exact pC HR213_2.out); (case side2 => exact HC213_2.out); rintro e w' ⟨rfl, ⟨nd, rfl⟩⟩; (try first | exact ⟨rfl, _, World.drewN_drewN _ _ _⟩ | exact ⟨rfl, _, Eq.trans (World.drewN_drewN _ _ _) (congrArg (World.drewN _) (Nat.add_assoc _ _ _))⟩))); try go_wp2_with (first | (go_at_call 137; (with_reducible refine (spec_l1All.calls kj4 _ _ ((rd_T34 l0 a1).f2) 0 9999 false _ ?side1 ?side2 A13.out).mono ?_); (case side1 => exact pC HR213_2.out); (case side2 => exact HC213_2.out); rintro e w' ⟨rfl, ⟨nd, rfl⟩⟩; (try first | exact ⟨rfl, _, World.drewN_drewN _ _ _⟩ | exact ⟨rfl, _, Eq.trans (World.drewN_drewN _ _ _) (congrArg (World.drewN _) (Nat.add_assoc _ _ _))⟩))))
                 go_ret
                 exact ⟨by first | rfl | (simp; done) | (simp [*]; done), pW⟩
           · rw [if_neg c11] at H
             exact absurd H (by simp)
         · rw [if_neg c10] at H
           exact absurd H (by simp)
   · rw [if_neg c4] at H
     exact absurd H (by simp)
 · rw [if_neg c3] at H
   exact absurd H (by simp)
def spec_l1Amount.f (a0 : Int) : Option (Bool) := (spec_l1In.f a0 0 1000000).bind fun t219 => (some t219)
theorem spec_l1Amount.calls (a0 : Int) (r : Bool) (w : World) (h : spec_l1Amount.f a0 = some r) :
 Calls Try.prog 138 #[.int .i64 a0] w fun e w' => e = .returned (.bool r) ∧ Drawn0 w w' := by
 have H : ((spec_l1In.f a0 0 1000000).bind fun t219 => (some t219)) = some r := h
 clear h
 obtain ⟨t219, A20, H⟩ := bO H
 replace H : (some t219) = some r := H
 have A2 := am A20; clear A20
 obtain rfl := sj H
 go_enter Try.func138, Try.ntmps138
 go_wp2_with (first | ((with_reducible refine gC (f := 81) rfl ?_); refine goesL_ (some 4) rfl rfl Try.func81 (by kernel_rfl) rfl #[.int .i64 a0, .int .i64 0, .int .i64 1000000] rfl pA ?_; (with_reducible refine (spec_l1In.calls a0 0 1000000 t219 _ A2.out).mono ?_); rintro e w' ⟨rfl, ⟨nd, rfl⟩⟩; refine ⟨_, rfl, ?_⟩))
 go_ret
 exact ⟨by first | rfl | (simp; done) | (simp [*]; done), pW⟩
def spec_l2Op.f (a0 : Int) : Option (Bool) := (spec_l1In.f a0 1 9).bind fun t220 => (if t220 = true then (some true) else ((spec_l1In.f a0 100 1099).bind fun t221 => (some t221)))
theorem spec_l2Op.calls (a0 : Int) (r : Bool) (w : World) (h : spec_l2Op.f a0 = some r) :
 Calls Try.prog 156 #[.int .i64 a0] w fun e w' => e = .returned (.bool r) ∧ Drawn0 w w' := by
 have H : ((spec_l1In.f a0 1 9).bind fun t220 => (if t220 = true then (some true) else ((spec_l1In.f a0 100 1099).bind fun t221 => (some t221)))) = some r := h
 clear h
 obtain ⟨t220, A20, H⟩ := bO H
 replace H : (if t220 = true then (some true) else ((spec_l1In.f a0 100 1099).bind fun t221 => (some t221))) = some r := H
 have A2 := am A20; clear A20
 by_cases c3 : t220 = true
 · subst c3
   have H1 : (some true) = some r := by rw [if_pos rfl] at H; exact H
   clear H; have H := H1; clear H1
   obtain rfl := sj H
   go_enter Try.func156, Try.ntmps156
   go_wp2_with (first | ((with_reducible refine gC (f := 81) rfl ?_); refine goesL_ (some 4) rfl rfl Try.func81 (by kernel_rfl) rfl #[.int .i64 a0, .int .i64 1, .int .i64 9] rfl pA ?_; (with_reducible refine (spec_l1In.calls a0 1 9 true _ A2.out).mono ?_); rintro e w' ⟨rfl, ⟨nd, rfl⟩⟩; refine ⟨_, rfl, ?_⟩))
   go_ret
   exact ⟨by first | rfl | (simp; done) | (simp [*]; done), pW⟩
 · replace c3 := Bool.eq_false_iff.mpr c3
   subst c3
   have H1 : ((spec_l1In.f a0 100 1099).bind fun t221 => (some t221)) = some r := by rw [if_neg (show ¬ (false = true) by decide)] at H; exact H
   clear H; have H := H1; clear H1
   obtain ⟨t221, A40, H⟩ := bO H
   replace H : (some t221) = some r := H
   have A4 := am A40; clear A40
   obtain rfl := sj H
   go_enter Try.func156, Try.ntmps156
   go_wp2_with (first | ((with_reducible refine gC (f := 81) rfl ?_); refine goesL_ (some 4) rfl rfl Try.func81 (by kernel_rfl) rfl #[.int .i64 a0, .int .i64 1, .int .i64 9] rfl pA ?_; (with_reducible refine (spec_l1In.calls a0 1 9 false _ A2.out).mono ?_); rintro e w' ⟨rfl, ⟨nd, rfl⟩⟩; refine ⟨_, rfl, ?_⟩) | (go_at_call 81; (with_reducible refine (spec_l1In.calls a0 100 1099 t221 _ A4.out).mono ?_); rintro e w' ⟨rfl, ⟨nd, rfl⟩⟩))
   go_ret
   exact ⟨by first | rfl | (simp; done) | (simp [*]; done), pW⟩
def spec_l2Fault.l0 : Nat → List Int → Int → Option (Int)
 | 0, _, _ => none
 | k + 1, x0, x3 => if x3 < (x0.length : Int) then (if 0 ≤ x3 then ((spec_l2Op.f (rd x0 x3)).bind fun t223 => (if t223 = true then (spec_l2Fault.l0 k x0 (wrap64 (x3 + 1))) else (some 1))) else (none)) else (some 0)
def spec_l2Fault.f (k : Nat) (l0 : List Int) : Option (Int) := if (l0.length : Int) > 12 then (some 2) else (spec_l2Fault.l0 k l0 0)
theorem spec_l2Fault.mono_l : ∀ k, (∀ y0 y1, LeO (spec_l2Fault.l0 k y0 y1) (spec_l2Fault.l0 (k + 1) y0 y1))
 | 0 => fun _ _ r h => by simp [spec_l2Fault.l0] at h
 | k + 1 => by
  have ih0 := spec_l2Fault.mono_l k
  · intro y0 y1
    unfold spec_l2Fault.l0
    repeat' with_reducible first | exact ih0 _ _ | exact LeO.refl _ | exact LeO.none _ | refine LeO.ite ?_ ?_ | refine LeO.bind ?_ (fun _ => ?_)
theorem spec_l2Fault.mono : ∀ a0 k, LeO (spec_l2Fault.f k a0) (spec_l2Fault.f (k + 1) a0) := by
 intro a0 k
 have ih0 := spec_l2Fault.mono_l k
 unfold spec_l2Fault.f
 repeat' with_reducible first | exact ih0 _ _ | exact LeO.refl _ | exact LeO.none _ | refine LeO.ite ?_ ?_ | refine LeO.bind ?_ (fun _ => ?_)
theorem spec_l2Fault.calls (k : Nat) (A0 : Option Addr) (c0 : Nat) (l0 : List Int) (r : Int) (w : World) (hr0 : Kd.C (Kd.int .i64) w A0 l0.length l0) (hc0 : l0.length ≤ c0) (h : spec_l2Fault.f k l0 = some r) :
 Calls Try.prog 139 #[.slice A0 l0.length c0] w fun e w' => e = .returned (.int .i64 r) ∧ Drawn0 w w' := by
 have HR0 := am hr0; have HC0 := am hc0; clear hr0 hc0
 have H : (if (l0.length : Int) > 12 then (some 2) else (spec_l2Fault.l0 k l0 0)) = some r := h
 clear h
 by_cases c2 : (l0.length : Int) > 12
 · rw [if_pos c2] at H
   have c2b0 : decide (12 < (l0.length : Int)) = true := dt c2
   have c2b1 : decide (12 < l0.length) = true := dt (by omega)
   clear c2
   obtain rfl := sj H
   go_enter Try.func139, Try.ntmps139
   go_wp2
   go_ret
   exact ⟨by first | rfl | (simp; done) | (simp [*]; done), pW⟩
 · rw [if_neg c2] at H
   have c2b0 : decide (12 < (l0.length : Int)) = false := decide_eq_false c2
   have c2b1 : decide (12 < l0.length) = false := decide_eq_false (by omega)
   clear c2
   have H' := am H
   clear H
   go_enter Try.func139, Try.ntmps139
   go_wp2
   go_loopg [3] k (fun kq v3 w' => ∃ (x3_1 : Int), v3 = .int .i64 x3_1 ∧ Aside0 (spec_l2Fault.l0 kq l0 x3_1 = some r) ∧ Aside0 (kq ≤ k) ∧ Drawn0 w w')
   case atStart => exact ⟨(0), pF, H', ⟨Nat.le_refl _⟩, pW⟩
   case round =>
    clear H'
    (try clear c2); (try clear c2b0); (try clear c2b1)
    obtain ⟨x3_1, rfl, HA, HK1, ⟨m1, rfl⟩⟩ := hrel
    cases gk with
    | zero => exact absurd HA.out (by simp [spec_l2Fault.l0])
    | succ k1 =>
     have H := HA.out
     clear HA
     simp only [spec_l2Fault.l0] at H
     by_cases c3 : x3_1 < (l0.length : Int)
     · rw [if_pos c3] at H
       have c3b0 : decide (x3_1 < (l0.length : Int)) = true := dt c3
       clear c3
       by_cases c4 : 0 ≤ x3_1
       · rw [if_pos c4] at H
         have c4b0 : decide (0 ≤ x3_1) = true := dt c4
         clear c4
         obtain ⟨t223, A50, H⟩ := bO H
         replace H : (if t223 = true then (spec_l2Fault.l0 k1 l0 (wrap64 (x3_1 + 1))) else (some 1)) = some r := H
         have A5 := am A50; clear A50
         by_cases c6 : t223 = true
         · subst c6
           have H1 : (spec_l2Fault.l0 k1 l0 (wrap64 (x3_1 + 1))) = some r := by rw [if_pos rfl] at H; exact H
           clear H; have H := H1; clear H1
           have H' := am H
           clear H
           have p222 : 0 ≤ (x3_1 : Int) := pD
           have q222 : x3_1 < (l0.length : Int) := pD
           obtain ⟨ad222, e222, hx222_0⟩ := Kd.at_int HR0.out x3_1 p222 q222
           cases e222; replace p222 := eq_true p222; replace q222 := eq_true q222
           go_wp2_with (first | ((with_reducible refine gC (f := 156) rfl ?_); refine goesL_ (some 17) rfl rfl Try.func156 (by kernel_rfl) rfl #[.int .i64 (rd l0 x3_1)] rfl pA ?_; (with_reducible refine (spec_l2Op.calls (rd l0 x3_1) true _ A5.out).mono ?_); rintro e w' ⟨rfl, ⟨nd, rfl⟩⟩; refine ⟨_, rfl, ?_⟩))
           go_roundg k1
           case measure => have := HK1.out; omega
           case rel => exact ⟨(wrap64 (x3_1 + 1)), pF, H', ⟨by have := HK1.out; omega⟩, pW⟩
         · replace c6 := Bool.eq_false_iff.mpr c6
           subst c6
           have H1 : (some 1) = some r := by rw [if_neg (show ¬ (false = true) by decide)] at H; exact H
           clear H; have H := H1; clear H1
           obtain rfl := sj H
           have p222 : 0 ≤ (x3_1 : Int) := pD
           have q222 : x3_1 < (l0.length : Int) := pD
           obtain ⟨ad222, e222, hx222_0⟩ := Kd.at_int HR0.out x3_1 p222 q222
           cases e222; replace p222 := eq_true p222; replace q222 := eq_true q222
           go_wp2_with (first | ((with_reducible refine gC (f := 156) rfl ?_); refine goesL_ (some 17) rfl rfl Try.func156 (by kernel_rfl) rfl #[.int .i64 (rd l0 x3_1)] rfl pA ?_; (with_reducible refine (spec_l2Op.calls (rd l0 x3_1) false _ A5.out).mono ?_); rintro e w' ⟨rfl, ⟨nd, rfl⟩⟩; refine ⟨_, rfl, ?_⟩))
           go_ret
           exact ⟨by first | rfl | (simp; done) | (simp [*]; done), pW⟩
       · rw [if_neg c4] at H
         exact absurd H (by simp)
     · rw [if_neg c3] at H
       have c3b0 : decide (x3_1 < (l0.length : Int)) = false := decide_eq_false c3
       clear c3
       obtain rfl := sj H
       go_wp2
       go_ret
       exact ⟨by first | rfl | (simp; done) | (simp [*]; done), pW⟩
end Go.Proofs.Ythjlbpgiaehjnaa.QFnExactBlockRoot
