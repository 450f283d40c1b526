-- written by this session's program (wip/tools/myprint.py)
import Derived.Test.YthjlbpgiaehjnaaQFnExactPackTxx0
import Derived.Test.YthjlbpgiaehjnaaQFnExactPackTxx8
-- squeezed
namespace Go.Proofs.Ythjlbpgiaehjnaa.QFnExactPackTx
open Go.RowKit Go.Proofs.YthjlbpgiaehjnaaW.PrintWords Go.Proofs.YthjlbpgiaehjnaaW.PrintLast Go.Proofs.YthjlbpgiaehjnaaW.PrintMore
attribute [local go_sem] max2_int min2_int max_two min_two max_three min_three max_four min_four   -- for this text's walks alone
set_option linter.unusedVariables false
set_option linter.unusedSimpArgs false
set_option maxHeartbeats 8000000
set_option maxRecDepth 100000
mutual
def spec_l3In.j0 : Nat → List (S34) → Int → Bool → Option (Int)
 | 0, _, _, _ => none
 | k + 1, x0, x1, x23 => if x23 = true then (some 3) else (if 0 ≤ x1 then (if x1 < (x0.length : Int) then (if (((rd_T34 x0 x1).f2).length : Int) > 8 then (some 2) else ((spec_l1All.f k ((rd_T34 x0 x1).f2) 0 9999).bind fun t312 => (if t312 = true then (spec_l3In.l0 k x0 x1 0) else (some 3)))) else (none)) else (none))
def spec_l3In.l0 : Nat → List (S34) → Int → Int → Option (Int)
 | 0, _, _, _ => none
 | k + 1, x0, x1, x6 => if x6 < x1 then (if 0 ≤ x6 then (if x6 < (x0.length : Int) then (if 0 ≤ x1 then (if x1 < (x0.length : Int) then (if ((rd_T34 x0 x6).f0) = ((rd_T34 x0 x1).f0) then (if ((rd_T34 x0 x6).f1) = ((rd_T34 x0 x1).f1) then (some 6) else (spec_l3In.l0 k x0 x1 (wrap64 (x6 + 1)))) else (spec_l3In.l0 k x0 x1 (wrap64 (x6 + 1)))) else (none)) else (none)) else (none)) else (none)) else (some 0)
end
def spec_l3In.f (k : Nat) (l0 : List (S34)) (a1 : Int) : Option (Int) := if 0 ≤ a1 then (if a1 < (l0.length : Int) then ((spec_l1In.f ((rd_T34 l0 a1).f0) 0 2147483646).bind fun t307 => (if t307 = true then ((spec_l1In.f ((rd_T34 l0 a1).f1) 0 3).bind fun t309 => (spec_l3In.j0 k l0 a1 (!t309))) else (spec_l3In.j0 k l0 a1 true))) else (none)) else (none)
theorem spec_l3In.mono_l : ∀ k, (∀ y0 y1 y2, LeO (spec_l3In.j0 k y0 y1 y2) (spec_l3In.j0 (k + 1) y0 y1 y2)) ∧ (∀ y0 y1 y2, LeO (spec_l3In.l0 k y0 y1 y2) (spec_l3In.l0 (k + 1) y0 y1 y2))
 | 0 => ⟨fun _ _ _ r h => by simp [spec_l3In.j0] at h, fun _ _ _ r h => by simp [spec_l3In.l0] at h⟩
 | k + 1 => by
  obtain ⟨ih0, ih1⟩ := spec_l3In.mono_l k
  refine ⟨?_, ?_⟩
  · intro y0 y1 y2
    unfold spec_l3In.j0
    repeat' with_reducible first | exact ih0 _ _ _ | exact ih1 _ _ _ | exact spec_l1All.mono _ _ _ _ | exact LeO.refl _ | exact LeO.none _ | refine LeO.ite ?_ ?_ | refine LeO.bind ?_ (fun _ => ?_)
  · intro y0 y1 y2
    unfold spec_l3In.l0
    repeat' with_reducible first | exact ih0 _ _ _ | exact ih1 _ _ _ | exact spec_l1All.mono _ _ _ _ | exact LeO.refl _ | exact LeO.none _ | refine LeO.ite ?_ ?_ | refine LeO.bind ?_ (fun _ => ?_)
theorem spec_l3In.mono : ∀ a0 a1 k, LeO (spec_l3In.f k a0 a1) (spec_l3In.f (k + 1) a0 a1) := by
 intro a0 a1 k
 obtain ⟨ih0, ih1⟩ := spec_l3In.mono_l k
 unfold spec_l3In.f
 repeat' with_reducible first | exact ih0 _ _ _ | exact ih1 _ _ _ | exact spec_l1All.mono _ _ _ _ | exact LeO.refl _ | exact LeO.none _ | refine LeO.ite ?_ ?_ | refine LeO.bind ?_ (fun _ => ?_)
theorem spec_l3In.calls (k : Nat) (A0 : Option Addr) (c0 : Nat) (l0 : List (S34)) (a1 : Int) (r : Int) (w : World) (hr0 : Kd.C k34 w A0 l0.length l0) (hc0 : l0.length ≤ c0) (h : spec_l3In.f k l0 a1 = some r) :
 Calls Try.prog 101 #[.slice A0 l0.length c0, .int .i64 a1] w fun e w' => e = .returned (.int .i64 r) ∧ Drawn0 w w' := by
 have hfd34_0 : ∀ (c0 c1 c2 : Value) (w : World), (Instr.field 34 (.agg #[c0, c1, c2]) 0).run Try.prog w = .ok c0 w := by intro c0 c1 c2 w; kernel_rfl
 have hfd34_1 : ∀ (c0 c1 c2 : Value) (w : World), (Instr.field 34 (.agg #[c0, c1, c2]) 1).run Try.prog w = .ok c1 w := by intro c0 c1 c2 w; kernel_rfl
 have hu34 := Try.underlying34
 have HR0 := am hr0; have HC0 := am hc0; clear hr0 hc0
 have H : (if 0 ≤ a1 then (if a1 < (l0.length : Int) then ((spec_l1In.f ((rd_T34 l0 a1).f0) 0 2147483646).bind fun t307 => (if t307 = true then ((spec_l1In.f ((rd_T34 l0 a1).f1) 0 3).bind fun t309 => (spec_l3In.j0 k l0 a1 (!t309))) else (spec_l3In.j0 k l0 a1 true))) else (none)) else (none)) = some r := h
 clear h
 by_cases c3 : 0 ≤ a1
 · rw [if_pos c3] at H
   have c3b0 : decide (0 ≤ a1) = true := dt c3
   clear c3
   by_cases c4 : a1 < (l0.length : Int)
   · rw [if_pos c4] at H
     have c4b0 : decide (a1 < (l0.length : Int)) = true := dt c4
     clear c4; have HC5 := am H; clear H
     have p305 : 0 ≤ (a1 : Int) := pD
     have q305 : a1 < (l0.length : Int) := pD
     obtain ⟨ad305, A305_2, c305_2, e305, hx305_0, hx305_1, hx305_2, hl305_2, hi305_2⟩ := at_T34 HR0.out a1 p305 q305
     cases e305; have HR305_2 := am hi305_2; have HC305_2 := am hl305_2; clear hi305_2 hl305_2; replace p305 := eq_true p305; replace q305 := eq_true q305
     go_enter Try.func101, Try.ntmps101
     go_upto_region 2 with (fail)
     repeat (go_quiet (fail); go_upto_region 2 with (fail))
     go_cut [23] (fun v23 wc => ∃ (kq : Nat) (x23_4 : Bool), v23 = .bool x23_4 ∧ Aside0 (spec_l3In.j0 kq l0 a1 x23_4 = some r) ∧ Aside0 (kq ≤ k) ∧ Drawn0 w wc)
     case first =>
      have H := HC5.out
      clear HC5
      obtain ⟨t307, A60, H⟩ := bO H
      replace H : (if t307 = true then ((spec_l1In.f ((rd_T34 l0 a1).f1) 0 3).bind fun t309 => (spec_l3In.j0 k l0 a1 (!t309))) else (spec_l3In.j0 k l0 a1 true)) = some r := H
      have A6 := am A60; clear A60
      by_cases c7 : t307 = true
      · subst c7
        have H1 : ((spec_l1In.f ((rd_T34 l0 a1).f1) 0 3).bind fun t309 => (spec_l3In.j0 k l0 a1 (!t309))) = some r := by rw [if_pos rfl] at H; exact H
        clear H; have H := H1; clear H1
        obtain ⟨t309, A80, H⟩ := bO H
        replace H : (spec_l3In.j0 k l0 a1 (!t309)) = some r := H
        have A8 := am A80; clear A80
        have H' := am H
        clear H
        have p306 : 0 ≤ (a1 : Int) := pD
        have q306 : a1 < (l0.length : Int) := pD
        obtain ⟨ad306, A306_2, c306_2, e306, hx306_0, hx306_1, hx306_2, hl306_2, hi306_2⟩ := at_T34 HR0.out a1 p306 q306
        obtain rfl : ad305 = ad306 := (by injection e306)
        have HR306_2 := am hi306_2; have HC306_2 := am hl306_2; clear hi306_2 hl306_2; replace p306 := eq_true p306; replace q306 := eq_true q306
        go_wp2_with (first | (go_at_call 81; (with_reducible refine (spec_l1In.calls ((rd_T34 l0 a1).f0) 0 2147483646 true _ A6.out).mono ?_); rintro e w' ⟨rfl, ⟨nd, rfl⟩⟩; (try first | exact ⟨rfl, _, World.drewN_drewN _ _ _⟩ | exact ⟨rfl, _, Eq.trans (World.drewN_drewN _ _ _) (congrArg (World.drewN _) (Nat.add_assoc _ _ _))⟩); have p308 : 0 ≤ (a1 : Int) := pD; have q308 : a1 < (l0.length : Int) := pD; obtain ⟨ad308, A308_2, c308_2, e308, hx308_0, hx308_1, hx308_2, hl308_2, hi308_2⟩ := at_T34 HR0.out a1 p308 q308; obtain rfl : ad305 = ad308 := (by injection e308); have HR308_2 := am hi308_2; have HC308_2 := am hl308_2; clear hi308_2 hl308_2; replace p308 := eq_true p308; replace q308 := eq_true q308; have ea_ := sj (hx306_2.symm.trans hx308_2); injection ea_ with ea_ en_ ec_; subst ea_; subst ec_; clear en_) | (go_at_call 81; (with_reducible refine (spec_l1In.calls ((rd_T34 l0 a1).f1) 0 3 t309 _ A8.out).mono ?_); rintro e w' ⟨rfl, ⟨nd, rfl⟩⟩; (try first | exact ⟨rfl, _, World.drewN_drewN _ _ _⟩ | exact ⟨rfl, _, Eq.trans (World.drewN_drewN _ _ _) (congrArg (World.drewN _) (Nat.add_assoc _ _ _))⟩)))
        repeat (go_quiet (first | (go_at_call 81; (with_reducible refine (spec_l1In.calls ((rd_T34 l0 a1).f0) 0 2147483646 true _ A6.out).mono ?_); rintro e w' ⟨rfl, ⟨nd, rfl⟩⟩; (try first | exact ⟨rfl, _, World.drewN_drewN _ _ _⟩ | exact ⟨rfl, _, Eq.trans (World.drewN_drewN _ _ _) (congrArg (World.drewN _) (Nat.add_assoc _ _ _))⟩); have p308 : 0 ≤ (a1 : Int) := pD; have q308 : a1 < (l0.length : Int) := pD; obtain ⟨ad308, A308_2, c308_2, e308, hx308_0, hx308_1, hx308_2, hl308_2, hi308_2⟩ := at_T34 HR0.out a1 p308 q308; obtain rfl : ad305 = ad308 := (by injection e308); have HR308_2 := am hi308_2; have HC308_2 := am hl308_2; clear hi308_2 hl308_2; replace p308 := eq_true p308; replace q308 := eq_true q308; have ea_ := sj (hx306_2.symm.trans hx308_2); injection ea_ with ea_ en_ ec_; subst ea_; subst ec_; clear en_) | (go_at_call 81; (with_reducible refine (spec_l1In.calls ((rd_T34 l0 a1).f1) 0 3 t309 _ A8.out).mono ?_); rintro e w' ⟨rfl, ⟨nd, rfl⟩⟩; (try first | exact ⟨rfl, _, World.drewN_drewN _ _ _⟩ | exact ⟨rfl, _, Eq.trans (World.drewN_drewN _ _ _) (congrArg (World.drewN _) (Nat.add_assoc _ _ _))⟩))); try go_wp2_with (first | (go_at_call 81; (with_reducible refine (spec_l1In.calls ((rd_T34 l0 a1).f0) 0 2147483646 true _ A6.out).mono ?_); rintro e w' ⟨rfl, ⟨nd, rfl⟩⟩; (try first | exact ⟨rfl, _, World.drewN_drewN _ _ _⟩ | exact ⟨rfl, _, Eq.trans (World.drewN_drewN _ _ _) (congrArg (World.drewN _) (Nat.add_assoc _ _ _))⟩); have p308 : 0 ≤ (a1 : Int) := pD; have q308 : a1 < (l0.length : Int) := pD; obtain ⟨ad308, A308_2, c308_2, e308, hx308_0, hx308_1, hx308_2, hl308_2, hi308_2⟩ := at_T34 HR0.out a1 p308 q308; obtain rfl : ad305 = ad308 := (by injection e308); have HR308_2 := am hi308_2; have HC308_2 := am hl308_2; clear hi308_2 hl308_2; replace p308 := eq_true p308; replace q308 := eq_true q308; have ea_ := sj (hx306_2.symm.trans hx308_2); injection ea_ with ea_ en_ ec_; subst ea_; subst ec_; clear en_) | (go_at_call 81; (with_reducible refine (spec_l1In.calls ((rd_T34 l0 a1).f1) 0 3 t309 _ A8.out).mono ?_); rintro e w' ⟨rfl, ⟨nd, rfl⟩⟩; (try first | exact ⟨rfl, _, World.drewN_drewN _ _ _⟩ | exact ⟨rfl, _, Eq.trans (World.drewN_drewN _ _ _) (congrArg (World.drewN _) (Nat.add_assoc _ _ _))⟩))))
        go_meet
        case rel => exact ⟨_, (!t309), pF, H', ⟨by first | omega | exact Nat.le_refl _⟩, pW⟩
      · replace c7 := Bool.eq_false_iff.mpr c7
        subst c7
        have H1 : (spec_l3In.j0 k l0 a1 true) = some r := by rw [if_neg (show ¬ (false = true) by decide)] at H; exact H
        clear H; have H := H1; clear H1
        have H' := am H
        clear H
        have p306 : 0 ≤ (a1 : Int) := pD
        have q306 : a1 < (l0.length : Int) := pD
        obtain ⟨ad306, A306_2, c306_2, e306, hx306_0, hx306_1, hx306_2, hl306_2, hi306_2⟩ := at_T34 HR0.out a1 p306 q306
        obtain rfl : ad305 = ad306 := (by injection e306)
        have HR306_2 := am hi306_2; have HC306_2 := am hl306_2; clear hi306_2 hl306_2; replace p306 := eq_true p306; replace q306 := eq_true q306
        go_wp2_with (first | (go_at_call 81; (with_reducible refine (spec_l1In.calls ((rd_T34 l0 a1).f0) 0 2147483646 false _ A6.out).mono ?_); rintro e w' ⟨rfl, ⟨nd, rfl⟩⟩; (try first | exact ⟨rfl, _, World.drewN_drewN _ _ _⟩ | exact ⟨rfl, _, Eq.trans (World.drewN_drewN _ _ _) (congrArg (World.drewN _) (Nat.add_assoc _ _ _))⟩)))
        repeat (go_quiet (first | (go_at_call 81; (with_reducible refine (spec_l1In.calls ((rd_T34 l0 a1).f0) 0 2147483646 false _ A6.out).mono ?_); rintro e w' ⟨rfl, ⟨nd, rfl⟩⟩; (try first | exact ⟨rfl, _, World.drewN_drewN _ _ _⟩ | exact ⟨rfl, _, Eq.trans (World.drewN_drewN _ _ _) (congrArg (World.drewN _) (Nat.add_assoc _ _ _))⟩))); try go_wp2_with (first | (go_at_call 81; (with_reducible refine (spec_l1In.calls ((rd_T34 l0 a1).f0) 0 2147483646 false _ A6.out).mono ?_); rintro e w' ⟨rfl, ⟨nd, rfl⟩⟩; (try first | exact ⟨rfl, _, World.drewN_drewN _ _ _⟩ | exact ⟨rfl, _, Eq.trans (World.drewN_drewN _ _ _) (congrArg (World.drewN _) (Nat.add_assoc _ _ _))⟩))))
        go_meet
        case rel => exact ⟨_, (true), pF, H', ⟨by first | omega | exact Nat.le_refl _⟩, pW⟩
     case rest =>
      clear HC5; (try clear c1); (try clear c3); (try clear c3b0); (try clear c4); (try clear c4b0); (try clear hx305_0); (try clear hx305_1); (try clear hx305_2); (try clear p305); (try clear q305)
      obtain ⟨kq, x23_4, rfl, HA, HJ4, ⟨mc4, rfl⟩⟩ := hcut
      cases kq with
      | zero => exact absurd HA.out (by simp [spec_l3In.j0])
      | succ kj4 =>
       have H := HA.out
       clear HA
       simp only [spec_l3In.j0] at H
       by_cases c9 : x23_4 = true
       · subst c9
         have H1 : (some 3) = some r := by rw [if_pos rfl] at H; exact H
         clear H; have H := H1; clear H1
         obtain rfl := sj H
         go_wp2
         repeat (go_quiet (fail); try go_wp2)
         go_ret
         exact ⟨by first | rfl | (simp; done) | (simp [*]; done), pW⟩
       · replace c9 := Bool.eq_false_iff.mpr c9
         subst c9
         have H1 : (if 0 ≤ a1 then (if a1 < (l0.length : Int) then (if (((rd_T34 l0 a1).f2).length : Int) > 8 then (some 2) else ((spec_l1All.f kj4 ((rd_T34 l0 a1).f2) 0 9999).bind fun t312 => (if t312 = true then (spec_l3In.l0 kj4 l0 a1 0) else (some 3)))) else (none)) else (none)) = some r := by rw [if_neg (show ¬ (false = true) by decide)] at H; exact H
         clear H; have H := H1; clear H1
         by_cases c10 : 0 ≤ a1
         · rw [if_pos c10] at H
           have c10b0 : decide (0 ≤ a1) = true := dt c10
           clear c10
           by_cases c11 : a1 < (l0.length : Int)
           · rw [if_pos c11] at H
             have c11b0 : decide (a1 < (l0.length : Int)) = true := dt c11
             clear c11
             by_cases c12 : (((rd_T34 l0 a1).f2).length : Int) > 8
             · rw [if_pos c12] at H
               have c12b0 : decide (8 < (((rd_T34 l0 a1).f2).length : Int)) = true := dt c12
               have c12b1 : decide (8 < ((rd_T34 l0 a1).f2).length) = true := dt (by omega)
               clear c12
               obtain rfl := sj H
               have p310 : 0 ≤ (a1 : Int) := pD
               have q310 : a1 < (l0.length : Int) := pD
               obtain ⟨ad310, A310_2, c310_2, e310, hx310_0, hx310_1, hx310_2, hl310_2, hi310_2⟩ := at_T34 HR0.out a1 p310 q310
               obtain rfl : ad305 = ad310 := (by injection e310)
               have HR310_2 := am hi310_2; have HC310_2 := am hl310_2; clear hi310_2 hl310_2; replace p310 := eq_true p310; replace q310 := eq_true q310
               go_wp2
               repeat (go_quiet (fail); try go_wp2)
               go_ret
               exact ⟨by first | rfl | (simp; done) | (simp [*]; done), pW⟩
             · rw [if_neg c12] at H
               have c12b0 : decide (8 < (((rd_T34 l0 a1).f2).length : Int)) = false := decide_eq_false c12
               have c12b1 : decide (8 < ((rd_T34 l0 a1).f2).length) = false := decide_eq_false (by omega)
               clear c12
               obtain ⟨t312, A130, H⟩ := bO H
               replace H : (if t312 = true then (spec_l3In.l0 kj4 l0 a1 0) else (some 3)) = some r := H
               have A13 := am A130; clear A130
               by_cases c14 : t312 = true
               · subst c14
                 have H1 : (spec_l3In.l0 kj4 l0 a1 0) = some r := by rw [if_pos rfl] at H; exact H
                 clear H; have H := H1; clear H1
                 have H' := am H
                 clear H
                 have p310 : 0 ≤ (a1 : Int) := pD
                 have q310 : a1 < (l0.length : Int) := pD
                 obtain ⟨ad310, A310_2, c310_2, e310, hx310_0, hx310_1, hx310_2, hl310_2, hi310_2⟩ := at_T34 HR0.out a1 p310 q310
                 obtain rfl : ad305 = ad310 := (by injection e310)
                 have HR310_2 := am hi310_2; have HC310_2 := am hl310_2; clear hi310_2 hl310_2; replace p310 := eq_true p310; replace q310 := eq_true q310
                 have p311 : 0 ≤ (a1 : Int) := pD
                 have q311 : a1 < (l0.length : Int) := pD
                 obtain ⟨ad311, A311_2, c311_2, e311, hx311_0, hx311_1, hx311_2, hl311_2, hi311_2⟩ := at_T34 HR0.out a1 p311 q311
                 obtain rfl : ad305 = ad311 := (by injection e311)
                 have HR311_2 := am hi311_2; have HC311_2 := am hl311_2; clear hi311_2 hl311_2; replace p311 := eq_true p311; replace q311 := eq_true q311
                 have ea_ := sj (hx310_2.symm.trans hx311_2)
                 injection ea_ with ea_ en_ ec_
                 subst ea_; subst ec_; clear en_
                 go_wp2_with (first | (go_at_call 137; (with_reducible refine (spec_l1All.calls kj4 _ _ ((rd_T34 l0 a1).f2) 0 9999 true _ ?side1 ?side2 A13.out).mono ?_); (case side1 => exact pC HR311_2.out); (case side2 => exact HC311_2.out); rintro e w' ⟨rfl, ⟨nd, rfl⟩⟩; (try first | exact ⟨rfl, _, World.drewN_drewN _ _ _⟩ | exact ⟨rfl, _, Eq.trans (World.drewN_drewN _ _ _) (congrArg (World.drewN _) (Nat.add_assoc _ _ _))⟩)))
                 repeat (go_quiet (first | (go_at_call 137; (with_reducible refine (spec_l1All.calls kj4 _ _ ((rd_T34 l0 a1).f2) 0 9999 true _ ?side1 ?side2 A13.out).mono ?_); (case side1 => exact pC HR311_2.out); (case side2 => exact HC311_2.out); rintro e w' ⟨rfl, ⟨nd, rfl⟩⟩; (try first | exact ⟨rfl, _, World.drewN_drewN _ _ _⟩ | exact ⟨rfl, _, Eq.trans (World.drewN_drewN _ _ _) (congrArg (World.drewN _) (Nat.add_assoc _ _ _))⟩))); try go_wp2_with (first | (go_at_call 137; (with_reducible refine (spec_l1All.calls kj4 _ _ ((rd_T34 l0 a1).f2) 0 9999 true _ ?side1 ?side2 A13.out).mono ?_); (case side1 => exact pC HR311_2.out); (case side2 => exact HC311_2.out); rintro e w' ⟨rfl, ⟨nd, rfl⟩⟩; (try first | exact ⟨rfl, _, World.drewN_drewN _ _ _⟩ | exact ⟨rfl, _, Eq.trans (World.drewN_drewN _ _ _) (congrArg (World.drewN _) (Nat.add_assoc _ _ _))⟩))))
                 go_loopg [6] kj4 (fun kq v6 w' => ∃ (x6_2 : Int), v6 = .int .i64 x6_2 ∧ Aside0 (spec_l3In.l0 kq l0 a1 x6_2 = some r) ∧ Aside0 (kq ≤ kj4) ∧ Drawn0 w w')
                 case atStart => exact ⟨(0), pF, H', ⟨Nat.le_refl _⟩, pW⟩
                 case round =>
                  clear H'
                  (try clear c1); (try clear c3); (try clear c3b0); (try clear c4); (try clear c4b0); (try clear c9); (try clear c10); (try clear c10b0); (try clear c11); (try clear c11b0); (try clear c12); (try clear c12b0); (try clear c12b1); (try clear c14); (try clear hx305_0); (try clear hx305_1); (try clear hx305_2); (try clear hx310_0); (try clear hx310_1); (try clear hx310_2); (try clear hx311_0); (try clear hx311_1); (try clear hx311_2); (try clear p305); (try clear p310); (try clear p311); (try clear q305); (try clear q310); (try clear q311)
                  obtain ⟨x6_2, rfl, HA, HK2, ⟨m2, rfl⟩⟩ := hrel
                  cases gk with
                  | zero => exact absurd HA.out (by simp [spec_l3In.l0])
                  | succ k2 =>
                   have H := HA.out
                   clear HA
                   simp only [spec_l3In.l0] at H
                   by_cases c15 : x6_2 < a1
                   · rw [if_pos c15] at H
                     have c15b0 : decide (x6_2 < a1) = true := dt c15
                     clear c15
                     by_cases c16 : 0 ≤ x6_2
                     · rw [if_pos c16] at H
                       have c16b0 : decide (0 ≤ x6_2) = true := dt c16
                       clear c16
                       by_cases c17 : x6_2 < (l0.length : Int)
                       · rw [if_pos c17] at H
                         have c17b0 : decide (x6_2 < (l0.length : Int)) = true := dt c17
                         clear c17
                         by_cases c18 : 0 ≤ a1
                         · rw [if_pos c18] at H
                           have c18b0 : decide (0 ≤ a1) = true := dt c18
                           clear c18
                           by_cases c19 : a1 < (l0.length : Int)
                           · rw [if_pos c19] at H
                             have c19b0 : decide (a1 < (l0.length : Int)) = true := dt c19
                             clear c19
                             by_cases c20 : ((rd_T34 l0 x6_2).f0) = ((rd_T34 l0 a1).f0)
                             · rw [if_pos c20] at H
                               have c20b0 : (((rd_T34 l0 x6_2).f0) == ((rd_T34 l0 a1).f0)) = true := beq_iff_eq.mpr c20
                               have c20b1 : (((rd_T34 l0 x6_2).f0) != ((rd_T34 l0 a1).f0)) = false := bne_eq_false_iff_eq.mpr c20
                               clear c20
                               by_cases c21 : ((rd_T34 l0 x6_2).f1) = ((rd_T34 l0 a1).f1)
                               · rw [if_pos c21] at H
                                 have c21b0 : (((rd_T34 l0 x6_2).f1) == ((rd_T34 l0 a1).f1)) = true := beq_iff_eq.mpr c21
                                 have c21b1 : (((rd_T34 l0 x6_2).f1) != ((rd_T34 l0 a1).f1)) = false := bne_eq_false_iff_eq.mpr c21
                                 clear c21
                                 obtain rfl := sj H
                                 have p313 : 0 ≤ (x6_2 : Int) := pD
                                 have q313 : x6_2 < (l0.length : Int) := pD
                                 obtain ⟨ad313, A313_2, c313_2, e313, hx313_0, hx313_1, hx313_2, hl313_2, hi313_2⟩ := at_T34 HR0.out x6_2 p313 q313
                                 obtain rfl : ad305 = ad313 := (by injection e313)
                                 have HR313_2 := am hi313_2; have HC313_2 := am hl313_2; clear hi313_2 hl313_2; replace p313 := eq_true p313; replace q313 := eq_true q313
                                 have p314 : 0 ≤ (a1 : Int) := pD
                                 have q314 : a1 < (l0.length : Int) := pD
                                 obtain ⟨ad314, A314_2, c314_2, e314, hx314_0, hx314_1, hx314_2, hl314_2, hi314_2⟩ := at_T34 HR0.out a1 p314 q314
                                 obtain rfl : ad305 = ad314 := (by injection e314)
                                 have HR314_2 := am hi314_2; have HC314_2 := am hl314_2; clear hi314_2 hl314_2; replace p314 := eq_true p314; replace q314 := eq_true q314
                                 have p315 : 0 ≤ (x6_2 : Int) := pD
                                 have q315 : x6_2 < (l0.length : Int) := pD
                                 obtain ⟨ad315, A315_2, c315_2, e315, hx315_0, hx315_1, hx315_2, hl315_2, hi315_2⟩ := at_T34 HR0.out x6_2 p315 q315
                                 obtain rfl : ad305 = ad315 := (by injection e315)
                                 have HR315_2 := am hi315_2; have HC315_2 := am hl315_2; clear hi315_2 hl315_2; replace p315 := eq_true p315; replace q315 := eq_true q315
                                 have ea_ := sj (hx313_2.symm.trans hx315_2)
                                 injection ea_ with ea_ en_ ec_
                                 subst ea_; subst ec_; clear en_
                                 have p316 : 0 ≤ (a1 : Int) := pD
                                 have q316 : a1 < (l0.length : Int) := pD
                                 obtain ⟨ad316, A316_2, c316_2, e316, hx316_0, hx316_1, hx316_2, hl316_2, hi316_2⟩ := at_T34 HR0.out a1 p316 q316
                                 obtain rfl : ad305 = ad316 := (by injection e316)
                                 have HR316_2 := am hi316_2; have HC316_2 := am hl316_2; clear hi316_2 hl316_2; replace p316 := eq_true p316; replace q316 := eq_true q316
                                 have ea_ := sj (hx314_2.symm.trans hx316_2)
                                 injection ea_ with ea_ en_ ec_
                                 subst ea_; subst ec_; clear en_
                                 go_wp2
                                 repeat (go_quiet (fail); try go_wp2)
                                 go_ret
                                 exact ⟨by first | rfl | (simp; done) | (simp [*]; done), pW⟩
                               · rw [if_neg c21] at H
                                 have c21b0 : (((rd_T34 l0 x6_2).f1) == ((rd_T34 l0 a1).f1)) = false := beq_eq_false_iff_ne.mpr c21
                                 have c21b1 : (((rd_T34 l0 x6_2).f1) != ((rd_T34 l0 a1).f1)) = true := bne_iff_ne.mpr c21
                                 have H' := am H
                                 clear H
                                 have p313 : 0 ≤ (x6_2 : Int) := pD
                                 have q313 : x6_2 < (l0.length : Int) := pD
                                 obtain ⟨ad313, A313_2, c313_2, e313, hx313_0, hx313_1, hx313_2, hl313_2, hi313_2⟩ := at_T34 HR0.out x6_2 p313 q313
                                 obtain rfl : ad305 = ad313 := (by injection e313)
                                 have HR313_2 := am hi313_2; have HC313_2 := am hl313_2; clear hi313_2 hl313_2; replace p313 := eq_true p313; replace q313 := eq_true q313
                                 have p314 : 0 ≤ (a1 : Int) := pD
                                 have q314 : a1 < (l0.length : Int) := pD
                                 obtain ⟨ad314, A314_2, c314_2, e314, hx314_0, hx314_1, hx314_2, hl314_2, hi314_2⟩ := at_T34 HR0.out a1 p314 q314
                                 obtain rfl : ad305 = ad314 := (by injection e314)
                                 have HR314_2 := am hi314_2; have HC314_2 := am hl314_2; clear hi314_2 hl314_2; replace p314 := eq_true p314; replace q314 := eq_true q314
                                 have p315 : 0 ≤ (x6_2 : Int) := pD
                                 have q315 : x6_2 < (l0.length : Int) := pD
                                 obtain ⟨ad315, A315_2, c315_2, e315, hx315_0, hx315_1, hx315_2, hl315_2, hi315_2⟩ := at_T34 HR0.out x6_2 p315 q315
                                 obtain rfl : ad305 = ad315 := (by injection e315)
                                 have HR315_2 := am hi315_2; have HC315_2 := am hl315_2; clear hi315_2 hl315_2; replace p315 := eq_true p315; replace q315 := eq_true q315
                                 have ea_ := sj (hx313_2.symm.trans hx315_2)
                                 injection ea_ with ea_ en_ ec_
                                 subst ea_; subst ec_; clear en_
                                 have p316 : 0 ≤ (a1 : Int) := pD
                                 have q316 : a1 < (l0.length : Int) := pD
                                 obtain ⟨ad316, A316_2, c316_2, e316, hx316_0, hx316_1, hx316_2, hl316_2, hi316_2⟩ := at_T34 HR0.out a1 p316 q316
                                 obtain rfl : ad305 = ad316 := (by injection e316)
                                 have HR316_2 := am hi316_2; have HC316_2 := am hl316_2; clear hi316_2 hl316_2; replace p316 := eq_true p316; replace q316 := eq_true q316
                                 have ea_ := sj (hx314_2.symm.trans hx316_2)
                                 injection ea_ with ea_ en_ ec_
                                 subst ea_; subst ec_; clear en_
                                 go_wp2
                                 repeat (go_quiet (fail); try go_wp2)
                                 go_roundg k2
                                 case measure => have := HJ4.out; have := HK2.out; omega
                                 case rel => exact ⟨(wrap64 (x6_2 + 1)), pF, H', ⟨by have := HJ4.out; have := HK2.out; omega⟩, pW⟩
                             · rw [if_neg c20] at H
                               have c20b0 : (((rd_T34 l0 x6_2).f0) == ((rd_T34 l0 a1).f0)) = false := beq_eq_false_iff_ne.mpr c20
                               have c20b1 : (((rd_T34 l0 x6_2).f0) != ((rd_T34 l0 a1).f0)) = true := bne_iff_ne.mpr c20
                               have H' := am H
                               clear H
                               have p313 : 0 ≤ (x6_2 : Int) := pD
                               have q313 : x6_2 < (l0.length : Int) := pD
                               obtain ⟨ad313, A313_2, c313_2, e313, hx313_0, hx313_1, hx313_2, hl313_2, hi313_2⟩ := at_T34 HR0.out x6_2 p313 q313
                               obtain rfl : ad305 = ad313 := (by injection e313)
                               have HR313_2 := am hi313_2; have HC313_2 := am hl313_2; clear hi313_2 hl313_2; replace p313 := eq_true p313; replace q313 := eq_true q313
                               have p314 : 0 ≤ (a1 : Int) := pD
                               have q314 : a1 < (l0.length : Int) := pD
                               obtain ⟨ad314, A314_2, c314_2, e314, hx314_0, hx314_1, hx314_2, hl314_2, hi314_2⟩ := at_T34 HR0.out a1 p314 q314
                               obtain rfl : ad305 = ad314 := (by injection e314)
                               have HR314_2 := am hi314_2; have HC314_2 := am hl314_2; clear hi314_2 hl314_2; replace p314 := eq_true p314; replace q314 := eq_true q314
                               go_wp2
                               repeat (go_quiet (fail); try go_wp2)
                               go_roundg k2
                               case measure => have := HJ4.out; have := HK2.out; omega
                               case rel => exact ⟨(wrap64 (x6_2 + 1)), pF, H', ⟨by have := HJ4.out; have := HK2.out; omega⟩, pW⟩
                           · rw [if_neg c19] at H
                             exact absurd H (by simp)
                         · rw [if_neg c18] at H
                           exact absurd H (by simp)
                       · rw [if_neg c17] at H
                         exact absurd H (by simp)
                     · rw [if_neg c16] at H
                       exact absurd H (by simp)
                   · rw [if_neg c15] at H
                     have c15b0 : decide (x6_2 < a1) = false := decide_eq_false c15
                     clear c15
                     obtain rfl := sj H
                     go_wp2
                     repeat (go_quiet (fail); try go_wp2)
                     go_ret
                     exact ⟨by first | rfl | (simp; done) | (simp [*]; done), pW⟩
               · replace c14 := Bool.eq_false_iff.mpr c14
                 subst c14
                 have H1 : (some 3) = some r := by rw [if_neg (show ¬ (false = true) by decide)] at H; exact H
                 clear H; have H := H1; clear H1
                 obtain rfl := sj H
                 have p310 : 0 ≤ (a1 : Int) := pD
                 have q310 : a1 < (l0.length : Int) := pD
                 obtain ⟨ad310, A310_2, c310_2, e310, hx310_0, hx310_1, hx310_2, hl310_2, hi310_2⟩ := at_T34 HR0.out a1 p310 q310
                 obtain rfl : ad305 = ad310 := (by injection e310)
                 have HR310_2 := am hi310_2; have HC310_2 := am hl310_2; clear hi310_2 hl310_2; replace p310 := eq_true p310; replace q310 := eq_true q310
                 have p311 : 0 ≤ (a1 : Int) := pD
                 have q311 : a1 < (l0.length : Int) := pD
                 obtain ⟨ad311, A311_2, c311_2, e311, hx311_0, hx311_1, hx311_2, hl311_2, hi311_2⟩ := at_T34 HR0.out a1 p311 q311
                 obtain rfl : ad305 = ad311 := (by injection e311)
                 have HR311_2 := am hi311_2; have HC311_2 := am hl311_2; clear hi311_2 hl311_2; replace p311 := eq_true p311; replace q311 := eq_true q311
                 have ea_ := sj (hx310_2.symm.trans hx311_2)
                 injection ea_ with ea_ en_ ec_
                 subst ea_; subst ec_; clear en_
                 go_wp2_with (first | (go_at_call 137; (with_reducible refine (spec_l1All.calls kj4 _ _ ((rd_T34 l0 a1).f2) 0 9999 false _ ?side1 ?side2 A13.out).mono ?_); (case side1 => exact pC HR311_2.out); (case side2 => exact HC311_2.out); rintro e w' ⟨rfl, ⟨nd, rfl⟩⟩; (try first | exact ⟨rfl, _, World.drewN_drewN _ _ _⟩ | exact ⟨rfl, _, Eq.trans (World.drewN_drewN _ _ _) (congrArg (World.drewN _) (Nat.add_assoc _ _ _))⟩)))
                 repeat (go_quiet (first | (go_at_call 137; (with_reducible refine (spec_l1All.calls kj4 _ _ ((rd_T34 l0 a1).f2) 0 9999 false _ ?side1 ?side2 A13.out).mono ?_); (case side1 => exact pC HR311_2.out); (case side2 => exact HC311_2.out); rintro e w' ⟨rfl, ⟨nd, rfl⟩⟩; (try first | exact ⟨rfl, _, World.drewN_drewN _ _ _⟩ | exact ⟨rfl, _, Eq.trans (World.drewN_drewN _ _ _) (congrArg (World.drewN _) (Nat.add_assoc _ _ _))⟩))); try go_wp2_with (first | (go_at_call 137; (with_reducible refine (spec_l1All.calls kj4 _ _ ((rd_T34 l0 a1).f2) 0 9999 false _ ?side1 ?side2 A13.out).mono ?_); (case side1 => exact pC HR311_2.out); (case side2 => exact HC311_2.out); rintro e w' ⟨rfl, ⟨nd, rfl⟩⟩; (try first | exact ⟨rfl, _, World.drewN_drewN _ _ _⟩ | exact ⟨rfl, _, Eq.trans (World.drewN_drewN _ _ _) (congrArg (World.drewN _) (Nat.add_assoc _ _ _))⟩))))
                 go_ret
                 exact ⟨by first | rfl | (simp; done) | (simp [*]; done), pW⟩
           · rw [if_neg c11] at H
             exact absurd H (by simp)
         · rw [if_neg c10] at H
           exact absurd H (by simp)
   · rw [if_neg c4] at H
     exact absurd H (by simp)
 · rw [if_neg c3] at H
   exact absurd H (by simp)
def spec_l1Amount.f (a0 : Int) : Option (Bool) := (spec_l1In.f a0 0 1000000).bind fun t317 => (some t317)
theorem spec_l1Amount.calls (a0 : Int) (r : Bool) (w : World) (h : spec_l1Amount.f a0 = some r) :
 Calls Try.prog 138 #[.int .i64 a0] w fun e w' => e = .returned (.bool r) ∧ Drawn0 w w' := by
 have H : ((spec_l1In.f a0 0 1000000).bind fun t317 => (some t317)) = some r := h
 clear h
 obtain ⟨t317, A20, H⟩ := bO H
 replace H : (some t317) = some r := H
 have A2 := am A20; clear A20
 obtain rfl := sj H
 go_enter Try.func138, Try.ntmps138
 go_wp2_with (first | ((with_reducible refine gC (f := 81) rfl ?_); refine goesL_ (some 4) rfl rfl Try.func81 (by kernel_rfl) rfl #[.int .i64 a0, .int .i64 0, .int .i64 1000000] rfl pA ?_; (with_reducible refine (spec_l1In.calls a0 0 1000000 t317 _ A2.out).mono ?_); rintro e w' ⟨rfl, ⟨nd, rfl⟩⟩; refine ⟨_, rfl, ?_⟩))
 go_ret
 exact ⟨by first | rfl | (simp; done) | (simp [*]; done), pW⟩
def spec_l2Op.f (a0 : Int) : Option (Bool) := (spec_l1In.f a0 1 9).bind fun t318 => (if t318 = true then (some true) else ((spec_l1In.f a0 100 1099).bind fun t319 => (some t319)))
theorem spec_l2Op.calls (a0 : Int) (r : Bool) (w : World) (h : spec_l2Op.f a0 = some r) :
 Calls Try.prog 156 #[.int .i64 a0] w fun e w' => e = .returned (.bool r) ∧ Drawn0 w w' := by
 have H : ((spec_l1In.f a0 1 9).bind fun t318 => (if t318 = true then (some true) else ((spec_l1In.f a0 100 1099).bind fun t319 => (some t319)))) = some r := h
 clear h
 obtain ⟨t318, A20, H⟩ := bO H
 replace H : (if t318 = true then (some true) else ((spec_l1In.f a0 100 1099).bind fun t319 => (some t319))) = some r := H
 have A2 := am A20; clear A20
 by_cases c3 : t318 = true
 · subst c3
   have H1 : (some true) = some r := by rw [if_pos rfl] at H; exact H
   clear H; have H := H1; clear H1
   obtain rfl := sj H
   go_enter Try.func156, Try.ntmps156
   go_wp2_with (first | ((with_reducible refine gC (f := 81) rfl ?_); refine goesL_ (some 4) rfl rfl Try.func81 (by kernel_rfl) rfl #[.int .i64 a0, .int .i64 1, .int .i64 9] rfl pA ?_; (with_reducible refine (spec_l1In.calls a0 1 9 true _ A2.out).mono ?_); rintro e w' ⟨rfl, ⟨nd, rfl⟩⟩; refine ⟨_, rfl, ?_⟩))
   go_ret
   exact ⟨by first | rfl | (simp; done) | (simp [*]; done), pW⟩
 · replace c3 := Bool.eq_false_iff.mpr c3
   subst c3
   have H1 : ((spec_l1In.f a0 100 1099).bind fun t319 => (some t319)) = some r := by rw [if_neg (show ¬ (false = true) by decide)] at H; exact H
   clear H; have H := H1; clear H1
   obtain ⟨t319, A40, H⟩ := bO H
   replace H : (some t319) = some r := H
   have A4 := am A40; clear A40
   obtain rfl := sj H
   go_enter Try.func156, Try.ntmps156
   go_wp2_with (first | ((with_reducible refine gC (f := 81) rfl ?_); refine goesL_ (some 4) rfl rfl Try.func81 (by kernel_rfl) rfl #[.int .i64 a0, .int .i64 1, .int .i64 9] rfl pA ?_; (with_reducible refine (spec_l1In.calls a0 1 9 false _ A2.out).mono ?_); rintro e w' ⟨rfl, ⟨nd, rfl⟩⟩; refine ⟨_, rfl, ?_⟩) | (go_at_call 81; (with_reducible refine (spec_l1In.calls a0 100 1099 t319 _ A4.out).mono ?_); rintro e w' ⟨rfl, ⟨nd, rfl⟩⟩))
   go_ret
   exact ⟨by first | rfl | (simp; done) | (simp [*]; done), pW⟩
def spec_l2Fault.l0 : Nat → List Int → Int → Option (Int)
 | 0, _, _ => none
 | k + 1, x0, x3 => if x3 < (x0.length : Int) then (if 0 ≤ x3 then ((spec_l2Op.f (rd x0 x3)).bind fun t321 => (if t321 = true then (spec_l2Fault.l0 k x0 (wrap64 (x3 + 1))) else (some 1))) else (none)) else (some 0)
def spec_l2Fault.f (k : Nat) (l0 : List Int) : Option (Int) := if (l0.length : Int) > 12 then (some 2) else (spec_l2Fault.l0 k l0 0)
theorem spec_l2Fault.mono_l : ∀ k, (∀ y0 y1, LeO (spec_l2Fault.l0 k y0 y1) (spec_l2Fault.l0 (k + 1) y0 y1))
 | 0 => fun _ _ r h => by simp [spec_l2Fault.l0] at h
 | k + 1 => by
  have ih0 := spec_l2Fault.mono_l k
  · intro y0 y1
    unfold spec_l2Fault.l0
    repeat' with_reducible first | exact ih0 _ _ | exact LeO.refl _ | exact LeO.none _ | refine LeO.ite ?_ ?_ | refine LeO.bind ?_ (fun _ => ?_)
theorem spec_l2Fault.mono : ∀ a0 k, LeO (spec_l2Fault.f k a0) (spec_l2Fault.f (k + 1) a0) := by
 intro a0 k
 have ih0 := spec_l2Fault.mono_l k
 unfold spec_l2Fault.f
 repeat' with_reducible first | exact ih0 _ _ | exact LeO.refl _ | exact LeO.none _ | refine LeO.ite ?_ ?_ | refine LeO.bind ?_ (fun _ => ?_)
theorem spec_l2Fault.calls (k : Nat) (A0 : Option Addr) (c0 : Nat) (l0 : List Int) (r : Int) (w : World) (hr0 : Kd.C (Kd.int .i64) w A0 l0.length l0) (hc0 : l0.length ≤ c0) (h : spec_l2Fault.f k l0 = some r) :
 Calls Try.prog 139 #[.slice A0 l0.length c0] w fun e w' => e = .returned (.int .i64 r) ∧ Drawn0 w w' := by
 have HR0 := am hr0; have HC0 := am hc0; clear hr0 hc0
 have H : (if (l0.length : Int) > 12 then (some 2) else (spec_l2Fault.l0 k l0 0)) = some r := h
 clear h
 by_cases c2 : (l0.length : Int) > 12
 · rw [if_pos c2] at H
   have c2b0 : decide (12 < (l0.length : Int)) = true := dt c2
   have c2b1 : decide (12 < l0.length) = true := dt (by omega)
   clear c2
   obtain rfl := sj H
   go_enter Try.func139, Try.ntmps139
   go_wp2
   go_ret
   exact ⟨by first | rfl | (simp; done) | (simp [*]; done), pW⟩
 · rw [if_neg c2] at H
   have c2b0 : decide (12 < (l0.length : Int)) = false := decide_eq_false c2
   have c2b1 : decide (12 < l0.length) = false := decide_eq_false (by omega)
   clear c2
   have H' := am H
   clear H
   go_enter Try.func139, Try.ntmps139
   go_wp2
   go_loopg [3] k (fun kq v3 w' => ∃ (x3_1 : Int), v3 = .int .i64 x3_1 ∧ Aside0 (spec_l2Fault.l0 kq l0 x3_1 = some r) ∧ Aside0 (kq ≤ k) ∧ Drawn0 w w')
   case atStart => exact ⟨(0), pF, H', ⟨Nat.le_refl _⟩, pW⟩
   case round =>
    clear H'
    (try clear c2); (try clear c2b0); (try clear c2b1)
    obtain ⟨x3_1, rfl, HA, HK1, ⟨m1, rfl⟩⟩ := hrel
    cases gk with
    | zero => exact absurd HA.out (by simp [spec_l2Fault.l0])
    | succ k1 =>
     have H := HA.out
     clear HA
     simp only [spec_l2Fault.l0] at H
     by_cases c3 : x3_1 < (l0.length : Int)
     · rw [if_pos c3] at H
       have c3b0 : decide (x3_1 < (l0.length : Int)) = true := dt c3
       clear c3
       by_cases c4 : 0 ≤ x3_1
       · rw [if_pos c4] at H
         have c4b0 : decide (0 ≤ x3_1) = true := dt c4
         clear c4
         obtain ⟨t321, A50, H⟩ := bO H
         replace H : (if t321 = true then (spec_l2Fault.l0 k1 l0 (wrap64 (x3_1 + 1))) else (some 1)) = some r := H
         have A5 := am A50; clear A50
         by_cases c6 : t321 = true
         · subst c6
           have H1 : (spec_l2Fault.l0 k1 l0 (wrap64 (x3_1 + 1))) = some r := by rw [if_pos rfl] at H; exact H
           clear H; have H := H1; clear H1
           have H' := am H
           clear H
           have p320 : 0 ≤ (x3_1 : Int) := pD
           have q320 : x3_1 < (l0.length : Int) := pD
           obtain ⟨ad320, e320, hx320_0⟩ := Kd.at_int HR0.out x3_1 p320 q320
           cases e320; replace p320 := eq_true p320; replace q320 := eq_true q320
           go_wp2_with (first | ((with_reducible refine gC (f := 156) rfl ?_); refine goesL_ (some 17) rfl rfl Try.func156 (by kernel_rfl) rfl #[.int .i64 (rd l0 x3_1)] rfl pA ?_; (with_reducible refine (spec_l2Op.calls (rd l0 x3_1) true _ A5.out).mono ?_); rintro e w' ⟨rfl, ⟨nd, rfl⟩⟩; refine ⟨_, rfl, ?_⟩))
           go_roundg k1
           case measure => have := HK1.out; omega
           case rel => exact ⟨(wrap64 (x3_1 + 1)), pF, H', ⟨by have := HK1.out; omega⟩, pW⟩
         · replace c6 := Bool.eq_false_iff.mpr c6
           subst c6
           have H1 : (some 1) = some r := by rw [if_neg (show ¬ (false = true) by decide)] at H; exact H
           clear H; have H := H1; clear H1
           obtain rfl := sj H
           have p320 : 0 ≤ (x3_1 : Int) := pD
           have q320 : x3_1 < (l0.length : Int) := pD
           obtain ⟨ad320, e320, hx320_0⟩ := Kd.at_int HR0.out x3_1 p320 q320
           cases e320; replace p320 := eq_true p320; replace q320 := eq_true q320
           go_wp2_with (first | ((with_reducible refine gC (f := 156) rfl ?_); refine goesL_ (some 17) rfl rfl Try.func156 (by kernel_rfl) rfl #[.int .i64 (rd l0 x3_1)] rfl pA ?_; (with_reducible refine (spec_l2Op.calls (rd l0 x3_1) false _ A5.out).mono ?_); rintro e w' ⟨rfl, ⟨nd, rfl⟩⟩; refine ⟨_, rfl, ?_⟩))
           go_ret
           exact ⟨by first | rfl | (simp; done) | (simp [*]; done), pW⟩
       · rw [if_neg c4] at H
         exact absurd H (by simp)
     · rw [if_neg c3] at H
       have c3b0 : decide (x3_1 < (l0.length : Int)) = false := decide_eq_false c3
       clear c3
       obtain rfl := sj H
       go_wp2
       go_ret
       exact ⟨by first | rfl | (simp; done) | (simp [*]; done), pW⟩
end Go.Proofs.Ythjlbpgiaehjnaa.QFnExactPackTx
