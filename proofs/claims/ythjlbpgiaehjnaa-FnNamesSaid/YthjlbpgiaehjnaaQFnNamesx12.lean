-- written by this session's program (wip/tools/myprint.py)
import Derived.Test.YthjlbpgiaehjnaaQFnNamesx0
import Derived.Test.YthjlbpgiaehjnaaQFnNamesx1
import Derived.Test.YthjlbpgiaehjnaaQFnNamesx10
import Derived.Test.YthjlbpgiaehjnaaQFnNamesx11
-- squeezed
namespace Go.Proofs.Ythjlbpgiaehjnaa.QFnNames
open Go.RowKit Go.Proofs.YthjlbpgiaehjnaaW.PrintWords Go.Proofs.YthjlbpgiaehjnaaW.PrintLast Go.Proofs.YthjlbpgiaehjnaaW.PrintMore
attribute [local go_sem] max2_int min2_int max_two min_two max_three min_three max_four min_four   -- for this text's walks alone
set_option linter.unusedVariables false
set_option linter.unusedSimpArgs false
set_option maxHeartbeats 8000000
set_option maxRecDepth 100000
mutual
def spec_l3Fault_in.j0 : Nat → List (S27) → Bool → Option (Int)
 | 0, _, _ => none
 | k + 1, x0, x32 => if x32 = true then (some 2) else (spec_l3Fault_in.l0 k x0 0)
def spec_l3Fault_in.l0 : Nat → List (S27) → Int → Option (Int)
 | 0, _, _ => none
 | k + 1, x0, x3 => if 0 < (x0.length : Int) then (if x3 < (((rd_T27 x0 0).f1).length : Int) then ((spec_l3In.f k ((rd_T27 x0 0).f1) x3).bind fun t469 => (if t469 = 0 then (spec_l3Fault_in.l0 k x0 (wrap64 (x3 + 1))) else (some t469))) else ((spec_l3Outs.f k ((rd_T27 x0 0).f2)).bind fun t471 => (some t471))) else (none)
end
def spec_l3Fault_in.f (k : Nat) (l0 : List (S27)) : Option (Int) := if 0 < (l0.length : Int) then ((spec_l1In.f ((rd_T27 l0 0).f0) 0 65535).bind fun t465 => (if t465 = true then (if (((rd_T27 l0 0).f1).length : Int) > 4 then (spec_l3Fault_in.j0 k l0 true) else (if (((rd_T27 l0 0).f2).length : Int) < 1 then (spec_l3Fault_in.j0 k l0 true) else (spec_l3Fault_in.j0 k l0 (decide ((((rd_T27 l0 0).f2).length : Int) > 4))))) else (some 3))) else (none)
theorem spec_l3Fault_in.mono_l : ∀ k, (∀ y0 y1, LeO (spec_l3Fault_in.j0 k y0 y1) (spec_l3Fault_in.j0 (k + 1) y0 y1)) ∧ (∀ y0 y1, LeO (spec_l3Fault_in.l0 k y0 y1) (spec_l3Fault_in.l0 (k + 1) y0 y1))
 | 0 => ⟨fun _ _ r h => by simp [spec_l3Fault_in.j0] at h, fun _ _ r h => by simp [spec_l3Fault_in.l0] at h⟩
 | k + 1 => by
  obtain ⟨ih0, ih1⟩ := spec_l3Fault_in.mono_l k
  refine ⟨?_, ?_⟩
  · intro y0 y1
    unfold spec_l3Fault_in.j0
    repeat' with_reducible first | exact ih0 _ _ | exact ih1 _ _ | exact spec_l3In.mono _ _ _ | exact spec_l3Outs.mono _ _ | exact LeO.refl _ | exact LeO.none _ | refine LeO.ite ?_ ?_ | refine LeO.bind ?_ (fun _ => ?_)
  · intro y0 y1
    unfold spec_l3Fault_in.l0
    repeat' with_reducible first | exact ih0 _ _ | exact ih1 _ _ | exact spec_l3In.mono _ _ _ | exact spec_l3Outs.mono _ _ | exact LeO.refl _ | exact LeO.none _ | refine LeO.ite ?_ ?_ | refine LeO.bind ?_ (fun _ => ?_)
theorem spec_l3Fault_in.mono : ∀ a0 k, LeO (spec_l3Fault_in.f k a0) (spec_l3Fault_in.f (k + 1) a0) := by
 intro a0 k
 obtain ⟨ih0, ih1⟩ := spec_l3Fault_in.mono_l k
 unfold spec_l3Fault_in.f
 repeat' with_reducible first | exact ih0 _ _ | exact ih1 _ _ | exact spec_l3In.mono _ _ _ | exact spec_l3Outs.mono _ _ | exact LeO.refl _ | exact LeO.none _ | refine LeO.ite ?_ ?_ | refine LeO.bind ?_ (fun _ => ?_)
theorem spec_l3Fault_in.calls (k : Nat) (A0 : Option Addr) (c0 : Nat) (l0 : List (S27)) (r : Int) (w : World) (hr0 : Kd.C k27 w A0 l0.length l0) (hc0 : l0.length ≤ c0) (h : spec_l3Fault_in.f k l0 = some r) :
 Calls Try.prog 53 #[.pointer A0] w fun e w' => e = .returned (.int .i64 r) ∧ Below w.heap.size w w' := by
 have HR0 := am hr0; have HC0 := am hc0; clear hr0 hc0
 have HB := am (Below.refl w.heap.size w)
 have H : (if 0 < (l0.length : Int) then ((spec_l1In.f ((rd_T27 l0 0).f0) 0 65535).bind fun t465 => (if t465 = true then (if (((rd_T27 l0 0).f1).length : Int) > 4 then (spec_l3Fault_in.j0 k l0 true) else (if (((rd_T27 l0 0).f2).length : Int) < 1 then (spec_l3Fault_in.j0 k l0 true) else (spec_l3Fault_in.j0 k l0 (decide ((((rd_T27 l0 0).f2).length : Int) > 4))))) else (some 3))) else (none)) = some r := h
 clear h
 by_cases c2 : 0 < (l0.length : Int)
 · rw [if_pos c2] at H
   have c2b0 : decide (0 < (l0.length : Int)) = true := dt c2
   have c2b1 : decide (0 < l0.length) = true := dt (by omega)
   clear c2
   obtain ⟨t465, A30, H⟩ := bO H
   replace H : (if t465 = true then (if (((rd_T27 l0 0).f1).length : Int) > 4 then (spec_l3Fault_in.j0 k l0 true) else (if (((rd_T27 l0 0).f2).length : Int) < 1 then (spec_l3Fault_in.j0 k l0 true) else (spec_l3Fault_in.j0 k l0 (decide ((((rd_T27 l0 0).f2).length : Int) > 4))))) else (some 3)) = some r := H
   have A3 := am A30; clear A30
   by_cases c4 : t465 = true
   · subst c4
     have H1 : (if (((rd_T27 l0 0).f1).length : Int) > 4 then (spec_l3Fault_in.j0 k l0 true) else (if (((rd_T27 l0 0).f2).length : Int) < 1 then (spec_l3Fault_in.j0 k l0 true) else (spec_l3Fault_in.j0 k l0 (decide ((((rd_T27 l0 0).f2).length : Int) > 4))))) = some r := by rw [if_pos rfl] at H; exact H
     clear H; have H := H1; clear H1; have HC5 := am H; clear H
     have p464 : 0 ≤ (0 : Int) := (by omega)
     have q464 : 0 < (l0.length : Int) := pD
     obtain ⟨ad464, A464_1, c464_1, A464_2, c464_2, e464, hx464_0, hx464_1, hx464_2, hl464_1, hi464_1, hl464_2, hi464_2⟩ := at_T27 HR0.out 0 p464 q464
     cases e464
     have qi464 : (0 < l0.length) = True := eq_true (by omega)
     (try rw [z0, zm, az] at hx464_0); (try rw [z0, zm, az] at hx464_1); (try rw [z0, zm, az] at hx464_2); have HR464_1 := am hi464_1; have HC464_1 := am hl464_1; clear hi464_1 hl464_1; have HR464_2 := am hi464_2; have HC464_2 := am hl464_2; clear hi464_2 hl464_2; replace p464 := eq_true p464; replace q464 := eq_true q464
     go_enter Try.func53, Try.ntmps53
     go_upto_region 3 with (first | ((with_reducible refine gC (f := 81) rfl ?_); refine goesL_ (some 9) rfl rfl Try.func81 (by kernel_rfl) rfl #[.int .i64 ((rd_T27 l0 0).f0), .int .i64 0, .int .i64 65535] rfl pA ?_; (with_reducible refine (spec_l1In.calls ((rd_T27 l0 0).f0) 0 65535 true _ A3.out).mono ?_); rintro e w' ⟨rfl, ⟨nd, rfl⟩⟩; refine ⟨_, rfl, ?_⟩))
     (try simp only [Act.put, List.setIfInBounds_toArray, List.set_cons_zero, List.set_cons_succ])
     go_cut [32] (fun v32 wc => ∃ (kq : Nat) (x32_4 : Bool), v32 = .bool x32_4 ∧ Aside0 (spec_l3Fault_in.j0 kq l0 x32_4 = some r) ∧ Aside0 (kq ≤ k) ∧ Aside0 (Below w.heap.size w wc))
     case first =>
      have H := HC5.out
      clear HC5
      by_cases c6 : (((rd_T27 l0 0).f1).length : Int) > 4
      · rw [if_pos c6] at H
        have c6b0 : decide (4 < (((rd_T27 l0 0).f1).length : Int)) = true := dt c6
        have c6b1 : decide (4 < ((rd_T27 l0 0).f1).length) = true := dt (by omega)
        clear c6
        (first | rw [c6b0] | (simp only [i64_w, i32_w]; rw [c6b0]) | skip)
        have H' := am H
        clear H
        have p466 : 0 ≤ (0 : Int) := (by omega)
        have q466 : 0 < (l0.length : Int) := pD
        (try clear hx464_0); (try clear hx464_1); (try clear hx464_2); (try clear hHeld)
        obtain ⟨ad466, A466_1, c466_1, A466_2, c466_2, e466, hx466_0, hx466_1, hx466_2, hl466_1, hi466_1, hl466_2, hi466_2⟩ := at_T27 HR0.out 0 p466 q466
        obtain rfl : ad464 = ad466 := (by injection e466)
        have qi466 : (0 < l0.length) = True := eq_true (by omega)
        (try rw [z0, zm, az] at hx466_0); (try rw [z0, zm, az] at hx466_1); (try rw [z0, zm, az] at hx466_2); replace hx466_0 := cb HB hx466_0; replace hx466_1 := cb HB hx466_1; replace hx466_2 := cb HB hx466_2; have HR466_1 := am hi466_1; have HC466_1 := am hl466_1; clear hi466_1 hl466_1; have HR466_2 := am hi466_2; have HC466_2 := am hl466_2; clear hi466_2 hl466_2; replace p466 := eq_true p466; replace q466 := eq_true q466
        go_wp2
        go_meet
        case rel => exact ⟨_, (true), pF, H', ⟨by first | omega | exact Nat.le_refl _⟩, ⟨pB⟩⟩
      · rw [if_neg c6] at H
        have c6b0 : decide (4 < (((rd_T27 l0 0).f1).length : Int)) = false := decide_eq_false c6
        have c6b1 : decide (4 < ((rd_T27 l0 0).f1).length) = false := decide_eq_false (by omega)
        clear c6
        (first | rw [c6b0] | (simp only [i64_w, i32_w]; rw [c6b0]) | skip)
        by_cases c7 : (((rd_T27 l0 0).f2).length : Int) < 1
        · rw [if_pos c7] at H
          have c7b0 : decide ((((rd_T27 l0 0).f2).length : Int) < 1) = true := dt c7
          have c7b1 : decide (((rd_T27 l0 0).f2).length < 1) = true := dt (by omega)
          clear c7
          have H' := am H
          clear H
          have p466 : 0 ≤ (0 : Int) := (by omega)
          have q466 : 0 < (l0.length : Int) := pD
          obtain ⟨ad466, A466_1, c466_1, A466_2, c466_2, e466, hx466_0, hx466_1, hx466_2, hl466_1, hi466_1, hl466_2, hi466_2⟩ := at_T27 HR0.out 0 p466 q466
          obtain rfl : ad464 = ad466 := (by injection e466)
          have qi466 : (0 < l0.length) = True := eq_true (by omega)
          (try rw [z0, zm, az] at hx466_0); (try rw [z0, zm, az] at hx466_1); (try rw [z0, zm, az] at hx466_2); replace hx466_0 := cb HB hx466_0; replace hx466_1 := cb HB hx466_1; replace hx466_2 := cb HB hx466_2; have HR466_1 := am hi466_1; have HC466_1 := am hl466_1; clear hi466_1 hl466_1; have HR466_2 := am hi466_2; have HC466_2 := am hl466_2; clear hi466_2 hl466_2; replace p466 := eq_true p466; replace q466 := eq_true q466
          go_wp2
          go_meet
          case rel => exact ⟨_, (true), pF, H', ⟨by first | omega | exact Nat.le_refl _⟩, ⟨pB⟩⟩
        · rw [if_neg c7] at H
          have c7b0 : decide ((((rd_T27 l0 0).f2).length : Int) < 1) = false := decide_eq_false c7
          have c7b1 : decide (((rd_T27 l0 0).f2).length < 1) = false := decide_eq_false (by omega)
          clear c7
          have H' := am H
          clear H
          have p466 : 0 ≤ (0 : Int) := (by omega)
          have q466 : 0 < (l0.length : Int) := pD
          obtain ⟨ad466, A466_1, c466_1, A466_2, c466_2, e466, hx466_0, hx466_1, hx466_2, hl466_1, hi466_1, hl466_2, hi466_2⟩ := at_T27 HR0.out 0 p466 q466
          obtain rfl : ad464 = ad466 := (by injection e466)
          have qi466 : (0 < l0.length) = True := eq_true (by omega)
          (try rw [z0, zm, az] at hx466_0); (try rw [z0, zm, az] at hx466_1); (try rw [z0, zm, az] at hx466_2); replace hx466_0 := cb HB hx466_0; replace hx466_1 := cb HB hx466_1; replace hx466_2 := cb HB hx466_2; have HR466_1 := am hi466_1; have HC466_1 := am hl466_1; clear hi466_1 hl466_1; have HR466_2 := am hi466_2; have HC466_2 := am hl466_2; clear hi466_2 hl466_2; replace p466 := eq_true p466; replace q466 := eq_true q466
          go_wp2
          go_meet
          case rel => exact ⟨_, (decide ((((rd_T27 l0 0).f2).length : Int) > 4)), pF, H', ⟨by first | omega | exact Nat.le_refl _⟩, ⟨pB⟩⟩
     case rest =>
      clear HC5; (try clear c2); (try clear c2b0); (try clear c2b1); (try clear c4); (try clear hx464_0); (try clear hx464_1); (try clear hx464_2); (try clear p464); (try clear q464)
      obtain ⟨kq, x32_4, rfl, HA, HJ4, HB⟩ := hcut
      cases kq with
      | zero => exact absurd HA.out (by simp [spec_l3Fault_in.j0])
      | succ kj4 =>
       have H := HA.out
       clear HA
       simp only [spec_l3Fault_in.j0] at H
       by_cases c8 : x32_4 = true
       · subst c8
         have H1 : (some 2) = some r := by rw [if_pos rfl] at H; exact H
         clear H; have H := H1; clear H1
         obtain rfl := sj H
         go_wp2
         go_ret
         exact ⟨pE, pB⟩
       · replace c8 := Bool.eq_false_iff.mpr c8
         subst c8
         have H1 : (spec_l3Fault_in.l0 kj4 l0 0) = some r := by rw [if_neg (show ¬ (false = true) by decide)] at H; exact H
         clear H; have H := H1; clear H1
         have H' := am H
         clear H
         go_wp2
         go_loopg [3] kj4 (fun kq v3 w' => ∃ (x3_2 : Int), v3 = .int .i64 x3_2 ∧ Aside0 (spec_l3Fault_in.l0 kq l0 x3_2 = some r) ∧ Aside0 (kq ≤ kj4) ∧ Aside0 (Below w.heap.size w w'))
         case atStart => exact ⟨(0), pF, H', ⟨Nat.le_refl _⟩, ⟨pB⟩⟩
         case round =>
          clear H'
          (try clear c2); (try clear c2b0); (try clear c2b1); (try clear c4); (try clear c8); (try clear hx464_0); (try clear hx464_1); (try clear hx464_2); (try clear p464); (try clear q464)
          obtain ⟨x3_2, rfl, HA, HK2, HB⟩ := hrel
          cases gk with
          | zero => exact absurd HA.out (by simp [spec_l3Fault_in.l0])
          | succ k2 =>
           have H := HA.out
           clear HA
           simp only [spec_l3Fault_in.l0] at H
           by_cases c9 : 0 < (l0.length : Int)
           · rw [if_pos c9] at H
             have c9b0 : decide (0 < (l0.length : Int)) = true := dt c9
             have c9b1 : decide (0 < l0.length) = true := dt (by omega)
             clear c9
             by_cases c10 : x3_2 < (((rd_T27 l0 0).f1).length : Int)
             · rw [if_pos c10] at H
               have c10b0 : decide (x3_2 < (((rd_T27 l0 0).f1).length : Int)) = true := dt c10
               clear c10
               obtain ⟨t469, A110, H⟩ := bO H
               replace H : (if t469 = 0 then (spec_l3Fault_in.l0 k2 l0 (wrap64 (x3_2 + 1))) else (some t469)) = some r := H
               have A11 := am A110; clear A110
               by_cases c12 : t469 = 0
               · rw [if_pos c12] at H
                 have c12b0 : (t469 == 0) = true := beq_iff_eq.mpr c12
                 have c12b1 : (t469 != 0) = false := bne_eq_false_iff_eq.mpr c12
                 clear c12
                 have H' := am H
                 clear H
                 have p467 : 0 ≤ (0 : Int) := (by omega)
                 have q467 : 0 < (l0.length : Int) := pD
                 obtain ⟨ad467, A467_1, c467_1, A467_2, c467_2, e467, hx467_0, hx467_1, hx467_2, hl467_1, hi467_1, hl467_2, hi467_2⟩ := at_T27 HR0.out 0 p467 q467
                 obtain rfl : ad464 = ad467 := (by injection e467)
                 have qi467 : (0 < l0.length) = True := eq_true (by omega)
                 (try rw [z0, zm, az] at hx467_0); (try rw [z0, zm, az] at hx467_1); (try rw [z0, zm, az] at hx467_2); replace hx467_0 := cb HB hx467_0; replace hx467_1 := cb HB hx467_1; replace hx467_2 := cb HB hx467_2; have HR467_1 := am hi467_1; have HC467_1 := am hl467_1; clear hi467_1 hl467_1; have HR467_2 := am hi467_2; have HC467_2 := am hl467_2; clear hi467_2 hl467_2; replace p467 := eq_true p467; replace q467 := eq_true q467
                 have p468 : 0 ≤ (0 : Int) := (by omega)
                 have q468 : 0 < (l0.length : Int) := pD
                 (try clear hx467_0); (try clear hHeld)
                 obtain ⟨ad468, A468_1, c468_1, A468_2, c468_2, e468, hx468_0, hx468_1, hx468_2, hl468_1, hi468_1, hl468_2, hi468_2⟩ := at_T27 HR0.out 0 p468 q468
                 obtain rfl : ad464 = ad468 := (by injection e468)
                 have qi468 : (0 < l0.length) = True := eq_true (by omega)
                 (try rw [z0, zm, az] at hx468_0); (try rw [z0, zm, az] at hx468_1); (try rw [z0, zm, az] at hx468_2); replace hx468_0 := cb HB hx468_0; replace hx468_1 := cb HB hx468_1; replace hx468_2 := cb HB hx468_2; have HR468_1 := am hi468_1; have HC468_1 := am hl468_1; clear hi468_1 hl468_1; have HR468_2 := am hi468_2; have HC468_2 := am hl468_2; clear hi468_2 hl468_2; replace p468 := eq_true p468; replace q468 := eq_true q468
                 have ea_ := sj (hx467_1.symm.trans hx468_1)
                 injection ea_ with ea_ en_ ec_
                 subst ea_; subst ec_; clear en_
                 have ea_ := sj (hx467_2.symm.trans hx468_2)
                 injection ea_ with ea_ en_ ec_
                 subst ea_; subst ec_; clear en_
                 go_wp2_with (first | ((with_reducible refine gC (f := 101) rfl ?_); refine goesL_ (some 47) rfl rfl Try.func101 (by kernel_rfl) rfl #[.slice A467_1 ((rd_T27 l0 0).f1).length c467_1, .int .i64 x3_2] rfl pA ?_; (with_reducible refine (spec_l3In.calls k2 _ _ ((rd_T27 l0 0).f1) x3_2 t469 _ ?side1 ?side2 A11.out).mono ?_); (case side1 => exact pC (Kd.C_below HR468_1.out HB.out)); (case side2 => exact HC468_1.out); rintro e w' ⟨rfl, ⟨nd, rfl⟩⟩; refine ⟨_, rfl, ?_⟩))
                 go_roundg k2
                 case measure => have := HJ4.out; have := HK2.out; omega
                 case rel => exact ⟨(wrap64 (x3_2 + 1)), pF, H', ⟨by have := HJ4.out; have := HK2.out; omega⟩, ⟨pB⟩⟩
               · rw [if_neg c12] at H
                 have c12b0 : (t469 == 0) = false := beq_eq_false_iff_ne.mpr c12
                 have c12b1 : (t469 != 0) = true := bne_iff_ne.mpr c12
                 obtain rfl := sj H
                 have p467 : 0 ≤ (0 : Int) := (by omega)
                 have q467 : 0 < (l0.length : Int) := pD
                 obtain ⟨ad467, A467_1, c467_1, A467_2, c467_2, e467, hx467_0, hx467_1, hx467_2, hl467_1, hi467_1, hl467_2, hi467_2⟩ := at_T27 HR0.out 0 p467 q467
                 obtain rfl : ad464 = ad467 := (by injection e467)
                 have qi467 : (0 < l0.length) = True := eq_true (by omega)
                 (try rw [z0, zm, az] at hx467_0); (try rw [z0, zm, az] at hx467_1); (try rw [z0, zm, az] at hx467_2); replace hx467_0 := cb HB hx467_0; replace hx467_1 := cb HB hx467_1; replace hx467_2 := cb HB hx467_2; have HR467_1 := am hi467_1; have HC467_1 := am hl467_1; clear hi467_1 hl467_1; have HR467_2 := am hi467_2; have HC467_2 := am hl467_2; clear hi467_2 hl467_2; replace p467 := eq_true p467; replace q467 := eq_true q467
                 have p468 : 0 ≤ (0 : Int) := (by omega)
                 have q468 : 0 < (l0.length : Int) := pD
                 (try clear hx467_0); (try clear hHeld)
                 obtain ⟨ad468, A468_1, c468_1, A468_2, c468_2, e468, hx468_0, hx468_1, hx468_2, hl468_1, hi468_1, hl468_2, hi468_2⟩ := at_T27 HR0.out 0 p468 q468
                 obtain rfl : ad464 = ad468 := (by injection e468)
                 have qi468 : (0 < l0.length) = True := eq_true (by omega)
                 (try rw [z0, zm, az] at hx468_0); (try rw [z0, zm, az] at hx468_1); (try rw [z0, zm, az] at hx468_2); replace hx468_0 := cb HB hx468_0; replace hx468_1 := cb HB hx468_1; replace hx468_2 := cb HB hx468_2; have HR468_1 := am hi468_1; have HC468_1 := am hl468_1; clear hi468_1 hl468_1; have HR468_2 := am hi468_2; have HC468_2 := am hl468_2; clear hi468_2 hl468_2; replace p468 := eq_true p468; replace q468 := eq_true q468
                 have ea_ := sj (hx467_1.symm.trans hx468_1)
                 injection ea_ with ea_ en_ ec_
                 subst ea_; subst ec_; clear en_
                 have ea_ := sj (hx467_2.symm.trans hx468_2)
                 injection ea_ with ea_ en_ ec_
                 subst ea_; subst ec_; clear en_
                 go_wp2_with (first | ((with_reducible refine gC (f := 101) rfl ?_); refine goesL_ (some 47) rfl rfl Try.func101 (by kernel_rfl) rfl #[.slice A467_1 ((rd_T27 l0 0).f1).length c467_1, .int .i64 x3_2] rfl pA ?_; (with_reducible refine (spec_l3In.calls k2 _ _ ((rd_T27 l0 0).f1) x3_2 t469 _ ?side1 ?side2 A11.out).mono ?_); (case side1 => exact pC (Kd.C_below HR468_1.out HB.out)); (case side2 => exact HC468_1.out); rintro e w' ⟨rfl, ⟨nd, rfl⟩⟩; refine ⟨_, rfl, ?_⟩))
                 go_ret
                 exact ⟨pE, pB⟩
             · rw [if_neg c10] at H
               have c10b0 : decide (x3_2 < (((rd_T27 l0 0).f1).length : Int)) = false := decide_eq_false c10
               clear c10
               obtain ⟨t471, A130, H⟩ := bO H
               replace H : (some t471) = some r := H
               have A13 := am A130; clear A130
               obtain rfl := sj H
               have p467 : 0 ≤ (0 : Int) := (by omega)
               have q467 : 0 < (l0.length : Int) := pD
               obtain ⟨ad467, A467_1, c467_1, A467_2, c467_2, e467, hx467_0, hx467_1, hx467_2, hl467_1, hi467_1, hl467_2, hi467_2⟩ := at_T27 HR0.out 0 p467 q467
               obtain rfl : ad464 = ad467 := (by injection e467)
               have qi467 : (0 < l0.length) = True := eq_true (by omega)
               (try rw [z0, zm, az] at hx467_0); (try rw [z0, zm, az] at hx467_1); (try rw [z0, zm, az] at hx467_2); replace hx467_0 := cb HB hx467_0; replace hx467_1 := cb HB hx467_1; replace hx467_2 := cb HB hx467_2; have HR467_1 := am hi467_1; have HC467_1 := am hl467_1; clear hi467_1 hl467_1; have HR467_2 := am hi467_2; have HC467_2 := am hl467_2; clear hi467_2 hl467_2; replace p467 := eq_true p467; replace q467 := eq_true q467
               have p470 : 0 ≤ (0 : Int) := (by omega)
               have q470 : 0 < (l0.length : Int) := pD
               (try clear hx467_0); (try clear hHeld)
               obtain ⟨ad470, A470_1, c470_1, A470_2, c470_2, e470, hx470_0, hx470_1, hx470_2, hl470_1, hi470_1, hl470_2, hi470_2⟩ := at_T27 HR0.out 0 p470 q470
               obtain rfl : ad464 = ad470 := (by injection e470)
               have qi470 : (0 < l0.length) = True := eq_true (by omega)
               (try rw [z0, zm, az] at hx470_0); (try rw [z0, zm, az] at hx470_1); (try rw [z0, zm, az] at hx470_2); replace hx470_0 := cb HB hx470_0; replace hx470_1 := cb HB hx470_1; replace hx470_2 := cb HB hx470_2; have HR470_1 := am hi470_1; have HC470_1 := am hl470_1; clear hi470_1 hl470_1; have HR470_2 := am hi470_2; have HC470_2 := am hl470_2; clear hi470_2 hl470_2; replace p470 := eq_true p470; replace q470 := eq_true q470
               have ea_ := sj (hx467_1.symm.trans hx470_1)
               injection ea_ with ea_ en_ ec_
               subst ea_; subst ec_; clear en_
               have ea_ := sj (hx467_2.symm.trans hx470_2)
               injection ea_ with ea_ en_ ec_
               subst ea_; subst ec_; clear en_
               go_wp2_with (first | ((with_reducible refine gC (f := 102) rfl ?_); refine goesL_ (some 55) rfl rfl Try.func102 (by kernel_rfl) rfl #[.slice A467_2 ((rd_T27 l0 0).f2).length c467_2] rfl pA ?_; (with_reducible refine (spec_l3Outs.calls k2 _ _ ((rd_T27 l0 0).f2) t471 _ ?side1 ?side2 A13.out).mono ?_); (case side1 => exact pC (Kd.C_below HR470_2.out HB.out)); (case side2 => exact HC470_2.out); rintro e w' ⟨rfl, ⟨nd, rfl⟩⟩; refine ⟨_, rfl, ?_⟩))
               go_ret
               exact ⟨pE, pB⟩
           · rw [if_neg c9] at H
             exact absurd H (by simp)
   · replace c4 := Bool.eq_false_iff.mpr c4
     subst c4
     have H1 : (some 3) = some r := by rw [if_neg (show ¬ (false = true) by decide)] at H; exact H
     clear H; have H := H1; clear H1
     obtain rfl := sj H
     have p464 : 0 ≤ (0 : Int) := (by omega)
     have q464 : 0 < (l0.length : Int) := pD
     obtain ⟨ad464, A464_1, c464_1, A464_2, c464_2, e464, hx464_0, hx464_1, hx464_2, hl464_1, hi464_1, hl464_2, hi464_2⟩ := at_T27 HR0.out 0 p464 q464
     cases e464
     have qi464 : (0 < l0.length) = True := eq_true (by omega)
     (try rw [z0, zm, az] at hx464_0); (try rw [z0, zm, az] at hx464_1); (try rw [z0, zm, az] at hx464_2); have HR464_1 := am hi464_1; have HC464_1 := am hl464_1; clear hi464_1 hl464_1; have HR464_2 := am hi464_2; have HC464_2 := am hl464_2; clear hi464_2 hl464_2; replace p464 := eq_true p464; replace q464 := eq_true q464
     go_enter Try.func53, Try.ntmps53
     go_wp2_with (first | ((with_reducible refine gC (f := 81) rfl ?_); refine goesL_ (some 9) rfl rfl Try.func81 (by kernel_rfl) rfl #[.int .i64 ((rd_T27 l0 0).f0), .int .i64 0, .int .i64 65535] rfl pA ?_; (with_reducible refine (spec_l1In.calls ((rd_T27 l0 0).f0) 0 65535 false _ A3.out).mono ?_); rintro e w' ⟨rfl, ⟨nd, rfl⟩⟩; refine ⟨_, rfl, ?_⟩))
     go_ret
     exact ⟨pE, pB⟩
 · rw [if_neg c2] at H
   exact absurd H (by simp)
def spec_l3Fault.f (k : Nat) (a0_0 : Int) (l0_1 : List (S34)) (l0_2 : List (S86)) : Option (Int) := spec_l3Fault_in.f k [(⟨a0_0, l0_1, l0_2⟩ : S27)]
theorem spec_l3Fault.mono : ∀ (a0_0 : Int) (l0_1 : List (S34)) (l0_2 : List (S86)) (k : Nat), LeO (spec_l3Fault.f k a0_0 l0_1 l0_2) (spec_l3Fault.f (k + 1) a0_0 l0_1 l0_2) := fun a0_0 l0_1 l0_2 k => spec_l3Fault_in.mono [(⟨a0_0, l0_1, l0_2⟩ : S27)] k
set_option maxHeartbeats 8000000 in
theorem spec_l3Fault.calls (k : Nat) (a0_0 : Int) (A0_1 : Option Addr) (c0_1 : Nat) (l0_1 : List (S34)) (A0_2 : Option Addr) (c0_2 : Nat) (l0_2 : List (S86)) (r : Int) (w : World) (hr0_1 : Kd.C k34 w A0_1 l0_1.length l0_1) (hc0_1 : l0_1.length ≤ c0_1) (hr0_2 : Kd.C k86 w A0_2 l0_2.length l0_2) (hc0_2 : l0_2.length ≤ c0_2) (h : spec_l3Fault.f k a0_0 l0_1 l0_2 = some r) {pp0 : Addr} (hpp0_0 : w.cell? pp0 = some (.int .i64 a0_0)) (hpp0_1 : w.cell? ⟨pp0.block, pp0.off + 1, none⟩ = some (.slice A0_1 l0_1.length c0_1)) (hpp0_2 : w.cell? ⟨pp0.block, pp0.off + 2, none⟩ = some (.slice A0_2 l0_2.length c0_2)) :
 Calls Try.prog 53 #[.pointer (some pp0)] w fun e w' => e = .returned (.int .i64 r) ∧ Below w.heap.size w w' := by
 have o0 : Kd.C k27 w (some pp0) 1 [(⟨a0_0, l0_1, l0_2⟩ : S27)] := by
  refine ⟨rfl, by decide, fun _ => ⟨pp0, rfl, fun j p hj => ?_⟩⟩
  cases j with
  | succ j => simp at hj
  | zero =>
   obtain rfl : (⟨a0_0, l0_1, l0_2⟩ : S27) = p := by simpa using hj
   refine ⟨_, rfl, k27_mk w _ hc0_1 hr0_1 hc0_2 hr0_2, fun i u hu => ?_⟩
   match i, hu with
   | 0, hu => obtain rfl := sj hu; exact hpp0_0
   | 1, hu => obtain rfl := sj hu; exact hpp0_1
   | 2, hu => obtain rfl := sj hu; exact hpp0_2
 exact spec_l3Fault_in.calls k (some pp0) 1 [(⟨a0_0, l0_1, l0_2⟩ : S27)] r w o0 (Nat.le_refl 1) h
def spec_l3Put.f (a0 : Int) : Option (List Int) := if a0 < 253 then (some (([(a0) % 256] : List Int))) else (some (([253, (Int.tmod a0 256) % 256, (wrap64 (Int.tdiv a0 256)) % 256] : List Int)))
theorem spec_l3Put.calls (a0 : Int) (r : List Int) (w : World) (h : spec_l3Put.f a0 = some r) :
 Calls Try.prog 80 #[.int .i64 a0] w fun e w' => ∃ v0_ : Value, e = .returned (v0_) ∧ Kd.R (Kd.int .u8) 5 w' w.heap.size (fun _ => True) v0_ r ∧ Below w.heap.size w w' := by
 have HB := am (Below.refl w.heap.size w)
 have H : (if a0 < 253 then (some (([(a0) % 256] : List Int))) else (some (([253, (Int.tmod a0 256) % 256, (wrap64 (Int.tdiv a0 256)) % 256] : List Int)))) = some r := h
 clear h
 by_cases c2 : a0 < 253
 · rw [if_pos c2] at H
   have c2b0 : decide (a0 < 253) = true := dt c2
   clear c2
   obtain ⟨y472, hy472⟩ : ∃ y_ : List Int, y_ = (([(a0) % 256] : List Int)) := ⟨_, rfl⟩
   replace H : (some y472) = some r := by first | (rw [hy472]; with_reducible exact H) | (have H2_ := (Option.bind_some _ _).symm.trans H; rw [hy472]; with_reducible exact H2_) | (have H2_ := (Option.bind_some _ _).symm.trans H; with_reducible exact H2_) | with_reducible exact H | (rw [hy472]; exact H) | exact H
   have Ny472 := am hy472; clear hy472
   obtain rfl := sj H
   go_enter Try.func80, Try.ntmps80
   go_wp2_with (first | ((with_reducible refine gate_dst (N := 7) rfl ?_); refine Kd.R_lit (Kd.int .u8) _ 5 ?hg (N := 7) ?hd (xs := ([(a0) % 256] : List Int)) (inner := [.int .u8 ((a0) % 256)]) (ok := fun _ => True) (okp := fun _ => True) ?hr ?hp (fun _ hk => hk) trivial (Below.refl _ _) (Nat.le_refl _) (by simp) ?_; (case hd => rfl); (case hg => rfl); (case hr => first | (go_simp; done) | (go_simp; rfl)); (case hp => exact (Reps.one (show Kd.M (Kd.int .u8) _ _ _ ((a0) % 256) [.int .u8 ((a0) % 256)] from rfl) (Reps.none _ _))); intro v473 w3 ho4 hb hg_ hnew_; clear hg_ hnew_; (first | rw [← Ny472.out] at ho4 | (simp only [Int.reduceToNat] at ho4; rw [← Ny472.out] at ho4)); have n_ := t2 (rL ho4 (bs_ pB)) (bz_ pB hb); clear HB; obtain ⟨HO474, HB⟩ := n_; clear hb ho4))
   go_ret
   exact ⟨_, pE, (pR HO474), pB⟩
 · rw [if_neg c2] at H
   have c2b0 : decide (a0 < 253) = false := decide_eq_false c2
   clear c2
   obtain ⟨y475, hy475⟩ : ∃ y_ : List Int, y_ = (([253, (Int.tmod a0 256) % 256, (wrap64 (Int.tdiv a0 256)) % 256] : List Int)) := ⟨_, rfl⟩
   replace H : (some y475) = some r := by first | (rw [hy475]; with_reducible exact H) | (have H2_ := (Option.bind_some _ _).symm.trans H; rw [hy475]; with_reducible exact H2_) | (have H2_ := (Option.bind_some _ _).symm.trans H; with_reducible exact H2_) | with_reducible exact H | (rw [hy475]; exact H) | exact H
   have Ny475 := am hy475; clear hy475
   obtain rfl := sj H
   go_enter Try.func80, Try.ntmps80
   go_wp2_with (first | ((with_reducible refine gate_dst (N := 14) rfl ?_); refine Kd.R_lit (Kd.int .u8) _ 5 ?hg (N := 14) ?hd (xs := ([253, (Int.tmod a0 256) % 256, (wrap64 (Int.tdiv a0 256)) % 256] : List Int)) (inner := [.int .u8 253, .int .u8 ((Int.tmod a0 256) % 256), .int .u8 ((wrap64 (Int.tdiv a0 256)) % 256)]) (ok := fun _ => True) (okp := fun _ => True) ?hr ?hp (fun _ hk => hk) trivial (Below.refl _ _) (Nat.le_refl _) (by simp) ?_; (case hd => rfl); (case hg => rfl); (case hr => first | (go_simp; done) | (go_simp; rfl)); (case hp => exact (Reps.one (show Kd.M (Kd.int .u8) _ _ _ 253 [.int .u8 253] from rfl) (Reps.one (show Kd.M (Kd.int .u8) _ _ _ ((Int.tmod a0 256) % 256) [.int .u8 ((Int.tmod a0 256) % 256)] from rfl) (Reps.one (show Kd.M (Kd.int .u8) _ _ _ ((wrap64 (Int.tdiv a0 256)) % 256) [.int .u8 ((wrap64 (Int.tdiv a0 256)) % 256)] from rfl) (Reps.none _ _))))); intro v476 w5 ho6 hb hg_ hnew_; clear hg_ hnew_; (first | rw [← Ny475.out] at ho6 | (simp only [Int.reduceToNat] at ho6; rw [← Ny475.out] at ho6)); have n_ := t2 (rL ho6 (bs_ pB)) (bz_ pB hb); clear HB; obtain ⟨HO477, HB⟩ := n_; clear hb ho6))
   go_ret
   exact ⟨_, pE, (pR HO477), pB⟩
def spec_l3Big.f (a0 : Int) : Option (List Int) := (spec_l3Put.f (Int.tmod a0 65536)).bind fun t478 => ((spec_l3Put.f (wrap64 (Int.tdiv a0 65536))).bind fun t481 => (if t478.length + t481.length < 140737488355328 then (some (t478 ++ t481)) else (none)))
theorem spec_l3Big.calls (a0 : Int) (r : List Int) (w : World) (h : spec_l3Big.f a0 = some r) :
 Calls Try.prog 125 #[.int .i64 a0] w fun e w' => ∃ v0_ : Value, e = .returned (v0_) ∧ Kd.R (Kd.int .u8) 5 w' w.heap.size (fun _ => True) v0_ r ∧ Below w.heap.size w w' := by
 have HB := am (Below.refl w.heap.size w)
 have H : ((spec_l3Put.f (Int.tmod a0 65536)).bind fun t478 => ((spec_l3Put.f (wrap64 (Int.tdiv a0 65536))).bind fun t481 => (if t478.length + t481.length < 140737488355328 then (some (t478 ++ t481)) else (none)))) = some r := h
 clear h
 obtain ⟨t478, A20, H⟩ := bO H
 replace H : ((spec_l3Put.f (wrap64 (Int.tdiv a0 65536))).bind fun t481 => (if t478.length + t481.length < 140737488355328 then (some (t478 ++ t481)) else (none))) = some r := H
 have A2 := am A20; clear A20
 obtain ⟨t481, A30, H⟩ := bO H
 replace H : (if t478.length + t481.length < 140737488355328 then (some (t478 ++ t481)) else (none)) = some r := H
 have A3 := am A30; clear A30
 by_cases c4 : t478.length + t481.length < 140737488355328
 · rw [if_pos c4] at H
   have LMc4 := am c4; clear c4
   obtain ⟨y484, hy484⟩ : ∃ y_ : List Int, y_ = (t478 ++ t481) := ⟨_, rfl⟩
   replace H : (some y484) = some r := by first | (rw [hy484]; with_reducible exact H) | (have H2_ := (Option.bind_some _ _).symm.trans H; rw [hy484]; with_reducible exact H2_) | (have H2_ := (Option.bind_some _ _).symm.trans H; with_reducible exact H2_) | with_reducible exact H | (rw [hy484]; exact H) | exact H
   have Ny484 := am hy484; clear hy484
   obtain rfl := sj H
   go_enter Try.func125, Try.ntmps125
   go_wp2_with (first | ((with_reducible refine gC (f := 80) rfl ?_); refine goesL_ (some 5) rfl rfl Try.func80 (by kernel_rfl) rfl #[.int .i64 (Int.tmod a0 65536)] rfl pA ?_; (with_reducible refine (spec_l3Put.calls (Int.tmod a0 65536) t478 _ A2.out).mono ?_); rintro e w5 ⟨v479, rfl, ho0, hb⟩; refine ⟨_, rfl, ?_⟩; have n_ := t2 (rL ho0 (bs_ pB)) (bz_ pB hb); clear HB; obtain ⟨HO480, HB⟩ := n_; (try clear hb); (try clear ho0)) | ((with_reducible refine gC (f := 80) rfl ?_); refine goesL_ (some 8) rfl rfl Try.func80 (by kernel_rfl) rfl #[.int .i64 (wrap64 (Int.tdiv a0 65536))] rfl pA ?_; (with_reducible refine (spec_l3Put.calls (wrap64 (Int.tdiv a0 65536)) t481 _ A3.out).mono ?_); rintro e w6 ⟨v482, rfl, ho0, hb⟩; refine ⟨_, rfl, ?_⟩; have n_ := t3 (rE (pR HO480) (rB ho0) hb) (rL (rW ho0 (Kd.R_lt (pR HO480))) (bs_ pB)) (bz_ pB hb); clear HO480 HB; obtain ⟨HO480, HO483, HB⟩ := n_; (try clear hb); (try clear ho0); obtain ⟨Ao8, co8, eo8⟩ := rS HO483.out; subst eo8) | ((with_reducible refine gB (b := .append) (xs := #[.tmp 5, .tmp 8]) rfl ?_); at_builtin; refine Kd.R_append_rows (Kd.int .u8) (w0 := w) w.heap.size rfl (.tmp 5) (.tmp 8) 22 5 (.int .u8 0) 1 rfl Try.underlying22 info5 rfl (by decide) (by omega) v479 t478 t481 _ _ _ (fun k_ => some k_ ≠ (.slice Ao8 t481.length co8 : Value).ownBlock) (fun _ => False) rfl rfl ?aO ?aR (fun _ _ h => h) (fun _ h => h.elim) ?aF ?aB ?aS ?aL ?_; (case aR => exact pC (rr HO483.out).2.2); (case aB => exact pB); (case aF => exact (fun k_ hk => Kd.fresh' (Kd.R_lt (pR HO483)) k_ hk)); (case aO => exact (pT (Kd.R_mono HO480.out (fun _ hk => hk.2)))); (case aS => exact (bs_ pB)); (case aL => have := LMc4.out; omega); intro v485 w7 ho hb hg hat; rw [← Ny484.out] at ho; have n_ := t3 (Kd.R_after (ok := (fun _ => True)) (pR HO483) hg hat) (hb) (ho); clear HO483 HB HO480; obtain ⟨HO483, HB, HO486⟩ := n_; clear ho hb hg hat))
   go_ret
   exact ⟨_, pE, (pT (Kd.R_mono HO486.out (fun _ hk => trivial))), pB⟩
 · rw [if_neg c4] at H
   exact absurd H (by simp)
def spec_l3List.l0 : Nat → List Int → List Int → Int → Option (List Int)
 | 0, _, _, _ => none
 | k + 1, x0, x3, x4 => if x4 < (x0.length : Int) then (if 0 ≤ x4 then ((spec_l3Put.f (rd x0 x4)).bind fun t491 => (if x3.length + t491.length < 140737488355328 then (spec_l3List.l0 k x0 (x3 ++ t491) (wrap64 (x4 + 1))) else (none))) else (none)) else (some x3)
def spec_l3List.f (k : Nat) (l0 : List Int) : Option (List Int) := (spec_l3Put.f (l0.length : Int)).bind fun t487 => (spec_l3List.l0 k l0 t487 0)
theorem spec_l3List.mono_l : ∀ k, (∀ y0 y1 y2, LeO (spec_l3List.l0 k y0 y1 y2) (spec_l3List.l0 (k + 1) y0 y1 y2))
 | 0 => fun _ _ _ r h => by simp [spec_l3List.l0] at h
 | k + 1 => by
  have ih0 := spec_l3List.mono_l k
  · intro y0 y1 y2
    unfold spec_l3List.l0
    repeat' with_reducible first | exact ih0 _ _ _ | exact LeO.refl _ | exact LeO.none _ | refine LeO.ite ?_ ?_ | refine LeO.bind ?_ (fun _ => ?_)
theorem spec_l3List.mono : ∀ a0 k, LeO (spec_l3List.f k a0) (spec_l3List.f (k + 1) a0) := by
 intro a0 k
 have ih0 := spec_l3List.mono_l k
 unfold spec_l3List.f
 repeat' with_reducible first | exact ih0 _ _ _ | exact LeO.refl _ | exact LeO.none _ | refine LeO.ite ?_ ?_ | refine LeO.bind ?_ (fun _ => ?_)
theorem spec_l3List.calls (k : Nat) (A0 : Option Addr) (c0 : Nat) (l0 : List Int) (r : List Int) (w : World) (hr0 : Kd.C (Kd.int .i64) w A0 l0.length l0) (hc0 : l0.length ≤ c0) (h : spec_l3List.f k l0 = some r) :
 Calls Try.prog 126 #[.slice A0 l0.length c0] w fun e w' => ∃ v0_ : Value, e = .returned (v0_) ∧ Kd.R (Kd.int .u8) 5 w' w.heap.size (fun _ => True) v0_ r ∧ Below w.heap.size w w' := by
 have HR0 := am hr0; have HC0 := am hc0; clear hr0 hc0
 have HB := am (Below.refl w.heap.size w)
 have H : ((spec_l3Put.f (l0.length : Int)).bind fun t487 => (spec_l3List.l0 k l0 t487 0)) = some r := h
 clear h
 obtain ⟨t487, A20, H⟩ := bO H
 replace H : (spec_l3List.l0 k l0 t487 0) = some r := H
 have A2 := am A20; clear A20
 have H' := am H
 clear H
 go_enter Try.func126, Try.ntmps126
 go_wp2_with (first | ((with_reducible refine gC (f := 80) rfl ?_); refine goesL_ (some 7) rfl rfl Try.func80 (by kernel_rfl) rfl #[.int .i64 (l0.length : Int)] rfl pA ?_; (with_reducible refine (spec_l3Put.calls (l0.length : Int) t487 _ A2.out).mono ?_); rintro e w3 ⟨v488, rfl, ho0, hb⟩; refine ⟨_, rfl, ?_⟩; have n_ := t2 (rL ho0 (bs_ pB)) (bz_ pB hb); clear HB; obtain ⟨HO489, HB⟩ := n_; (try clear hb); (try clear ho0)))
 go_loopg [3, 4] k (fun kq v3 v4 w' => ∃ (x3_1 : List Int) (x4_1 : Int), v4 = .int .i64 x4_1 ∧ Aside0 (spec_l3List.l0 kq l0 x3_1 x4_1 = some r) ∧ Aside0 (kq ≤ k) ∧ Aside0 (Kd.R (Kd.int .u8) 5 w' w.heap.size (fun _ => True) v3 x3_1) ∧ Aside0 (Below w.heap.size w w'))
 case atStart => exact ⟨(t487), (0), pF, H', ⟨Nat.le_refl _⟩, ⟨(pR HO489)⟩, ⟨pB⟩⟩
 case round =>
  clear H'
  obtain ⟨x3_1, x4_1, rfl, HA, HK1, HO_3, HB⟩ := hrel
  cases gk with
  | zero => exact absurd HA.out (by simp [spec_l3List.l0])
  | succ k1 =>
   have H := HA.out
   clear HA
   simp only [spec_l3List.l0] at H
   by_cases c4 : x4_1 < (l0.length : Int)
   · rw [if_pos c4] at H
     have c4b0 : decide (x4_1 < (l0.length : Int)) = true := dt c4
     clear c4
     by_cases c5 : 0 ≤ x4_1
     · rw [if_pos c5] at H
       have c5b0 : decide (0 ≤ x4_1) = true := dt c5
       clear c5
       obtain ⟨t491, A60, H⟩ := bO H
       replace H : (if x3_1.length + t491.length < 140737488355328 then (spec_l3List.l0 k1 l0 (x3_1 ++ t491) (wrap64 (x4_1 + 1))) else (none)) = some r := H
       have A6 := am A60; clear A60
       by_cases c7 : x3_1.length + t491.length < 140737488355328
       · rw [if_pos c7] at H
         have LMc7 := am c7; clear c7
         obtain ⟨y494, hy494⟩ : ∃ y_ : List Int, y_ = (x3_1 ++ t491) := ⟨_, rfl⟩
         replace H : (spec_l3List.l0 k1 l0 y494 (wrap64 (x4_1 + 1))) = some r := by first | (rw [hy494]; with_reducible exact H) | (have H2_ := (Option.bind_some _ _).symm.trans H; rw [hy494]; with_reducible exact H2_) | (have H2_ := (Option.bind_some _ _).symm.trans H; with_reducible exact H2_) | with_reducible exact H | (rw [hy494]; exact H) | exact H
         have Ny494 := am hy494; clear hy494
         have H' := am H
         clear H
         have p490 : 0 ≤ (x4_1 : Int) := pD
         have q490 : x4_1 < (l0.length : Int) := pD
         obtain ⟨ad490, e490, hx490_0⟩ := Kd.at_int HR0.out x4_1 p490 q490
         cases e490; replace hx490_0 := cb HB hx490_0; replace p490 := eq_true p490; replace q490 := eq_true q490
         go_wp2_with (first | ((with_reducible refine gC (f := 80) rfl ?_); refine goesL_ (some 19) rfl rfl Try.func80 (by kernel_rfl) rfl #[.int .i64 (rd l0 x4_1)] rfl pA ?_; (with_reducible refine (spec_l3Put.calls (rd l0 x4_1) t491 _ A6.out).mono ?_); rintro e w8 ⟨v492, rfl, ho0, hb⟩; refine ⟨_, rfl, ?_⟩; have n_ := t3 (rE (pR HO_3) (rB ho0) hb) (rL (rW ho0 (Kd.R_lt (pR HO_3))) (bs_ pB)) (bz_ pB hb); clear HO_3 HB; obtain ⟨HO_3, HO493, HB⟩ := n_; (try clear hb); (try clear ho0); obtain ⟨Ao10, co10, eo10⟩ := rS HO493.out; subst eo10) | ((with_reducible refine gB (b := .append) (xs := #[.tmp 14, .tmp 19]) rfl ?_); at_builtin; refine Kd.R_append_rows (Kd.int .u8) (w0 := w) w.heap.size rfl (.tmp 14) (.tmp 19) 22 5 (.int .u8 0) 1 rfl Try.underlying22 info5 rfl (by decide) (by omega) u3 x3_1 t491 _ _ _ (fun k_ => some k_ ≠ (.slice Ao10 t491.length co10 : Value).ownBlock) (fun _ => False) rfl rfl ?aO ?aR (fun _ _ h => h) (fun _ h => h.elim) ?aF ?aB ?aS ?aL ?_; (case aR => exact pC (rr HO493.out).2.2); (case aB => exact pB); (case aF => exact (fun k_ hk => Kd.fresh' (Kd.R_lt (pR HO493)) k_ hk)); (case aO => exact (pT (Kd.R_mono HO_3.out (fun _ hk => hk.2)))); (case aS => exact (bs_ pB)); (case aL => have := LMc7.out; omega); intro v495 w9 ho hb hg hat; rw [← Ny494.out] at ho; have n_ := t3 (Kd.R_after (ok := (fun _ => True)) (pR HO493) hg hat) (hb) (ho); clear HO493 HB HO_3; obtain ⟨HO493, HB, HO496⟩ := n_; clear ho hb hg hat))
         go_roundg k1
         case measure => have := HK1.out; omega
         case rel => exact ⟨(y494), (wrap64 (x4_1 + 1)), pF, H', ⟨by have := HK1.out; omega⟩, ⟨(pT (Kd.R_mono HO496.out (fun _ hk => trivial)))⟩, ⟨pB⟩⟩
       · rw [if_neg c7] at H
         exact absurd H (by simp)
     · rw [if_neg c5] at H
       exact absurd H (by simp)
   · rw [if_neg c4] at H
     have c4b0 : decide (x4_1 < (l0.length : Int)) = false := decide_eq_false c4
     clear c4
     obtain rfl := sj H
     go_wp2
     go_ret
     exact ⟨_, pE, (pR HO_3), pB⟩
end Go.Proofs.Ythjlbpgiaehjnaa.QFnNames
