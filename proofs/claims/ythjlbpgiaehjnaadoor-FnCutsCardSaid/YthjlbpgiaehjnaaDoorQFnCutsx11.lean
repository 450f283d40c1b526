-- written by this session's program (wip/tools/myprint.py)
import Derived.Test.YthjlbpgiaehjnaaDoorQFnCutsx0
import Derived.Test.YthjlbpgiaehjnaaDoorQFnCutsx1
import Derived.Test.YthjlbpgiaehjnaaDoorQFnCutsx8
import Derived.Test.YthjlbpgiaehjnaaDoorQFnCutsx9
import Derived.Test.YthjlbpgiaehjnaaDoorQFnCutsx10
-- squeezed
namespace Go.Proofs.YthjlbpgiaehjnaaDoor.QFnCuts
open Go.RowKit Go.Proofs.YthjlbpgiaehjnaaDoorW.PrintWords Go.Proofs.YthjlbpgiaehjnaaDoorW.PrintLast Go.Proofs.YthjlbpgiaehjnaaDoorW.PrintMore
attribute [local go_sem] max2_int min2_int max_two min_two max_three min_three max_four min_four   -- for this text's walks alone
set_option linter.unusedVariables false
set_option linter.unusedSimpArgs false
set_option maxHeartbeats 8000000
set_option maxRecDepth 100000
attribute [local go_sem high] eqA81
mutual
def spec_l8Fault.j0 : Nat → List (S81) → Bool → Option (Int)
 | 0, _, _ => none
 | k + 1, x0, x13 => if x13 = true then (some 2) else (spec_l8Fault.l0 k x0 0)
def spec_l8Fault.l0 : Nat → List (S81) → Int → Option (Int)
 | 0, _, _ => none
 | k + 1, x0, x3 => if x3 < (x0.length : Int) then (if 0 ≤ x3 then ((spec_l8One.f k ((rd_T81 x0 x3).f0) ((rd_T81 x0 x3).f1) ((rd_T81 x0 x3).f2)).bind fun t323 => (if t323 = 0 then (spec_l8Fault.l0 k x0 (wrap64 (x3 + 1))) else (some t323))) else (none)) else ((spec_l8End.f k x0 0).bind fun t324 => (if t324 = (x0.length : Int) then (spec_l8Fault.l1 k x0 0) else (some 1)))
def spec_l8Fault.l1 : Nat → List (S81) → Int → Option (Int)
 | 0, _, _ => none
 | k + 1, x0, x5 => if x5 < (x0.length : Int) then (if 0 ≤ x5 then (if ((rd_T81 x0 x5).f0) = 6 then ((spec_l8Twice.f k x0 x5).bind fun t326 => (if t326 = true then (some 6) else (spec_l8Fault.l1 k x0 (wrap64 (x5 + 1))))) else (spec_l8Fault.l1 k x0 (wrap64 (x5 + 1)))) else (none)) else ((spec_l8Deep.f k x0 0).bind fun t327 => (if t327 > 4 then (some 2) else (some 0)))
end
def spec_l8Fault.f (k : Nat) (l0 : List (S81)) : Option (Int) := if (l0.length : Int) < 1 then (spec_l8Fault.j0 k l0 true) else (spec_l8Fault.j0 k l0 (decide ((l0.length : Int) > 20)))
theorem spec_l8Fault.mono_l : ∀ k, (∀ y0 y1, LeO (spec_l8Fault.j0 k y0 y1) (spec_l8Fault.j0 (k + 1) y0 y1)) ∧ (∀ y0 y1, LeO (spec_l8Fault.l0 k y0 y1) (spec_l8Fault.l0 (k + 1) y0 y1)) ∧ (∀ y0 y1, LeO (spec_l8Fault.l1 k y0 y1) (spec_l8Fault.l1 (k + 1) y0 y1))
 | 0 => ⟨fun _ _ r h => by simp [spec_l8Fault.j0] at h, fun _ _ r h => by simp [spec_l8Fault.l0] at h, fun _ _ r h => by simp [spec_l8Fault.l1] at h⟩
 | k + 1 => by
  obtain ⟨ih0, ih1, ih2⟩ := spec_l8Fault.mono_l k
  refine ⟨?_, ?_, ?_⟩
  · intro y0 y1
    unfold spec_l8Fault.j0
    repeat' with_reducible first | exact ih0 _ _ | exact ih1 _ _ | exact ih2 _ _ | exact spec_l8Deep.mono _ _ _ | exact spec_l8End.mono _ _ _ | exact spec_l8One.mono _ _ _ _ | exact spec_l8Twice.mono _ _ _ | exact LeO.refl _ | exact LeO.none _ | refine LeO.ite ?_ ?_ | refine LeO.bind ?_ (fun _ => ?_)
  · intro y0 y1
    unfold spec_l8Fault.l0
    repeat' with_reducible first | exact ih0 _ _ | exact ih1 _ _ | exact ih2 _ _ | exact spec_l8Deep.mono _ _ _ | exact spec_l8End.mono _ _ _ | exact spec_l8One.mono _ _ _ _ | exact spec_l8Twice.mono _ _ _ | exact LeO.refl _ | exact LeO.none _ | refine LeO.ite ?_ ?_ | refine LeO.bind ?_ (fun _ => ?_)
  · intro y0 y1
    unfold spec_l8Fault.l1
    repeat' with_reducible first | exact ih0 _ _ | exact ih1 _ _ | exact ih2 _ _ | exact spec_l8Deep.mono _ _ _ | exact spec_l8End.mono _ _ _ | exact spec_l8One.mono _ _ _ _ | exact spec_l8Twice.mono _ _ _ | exact LeO.refl _ | exact LeO.none _ | refine LeO.ite ?_ ?_ | refine LeO.bind ?_ (fun _ => ?_)
theorem spec_l8Fault.mono : ∀ a0 k, LeO (spec_l8Fault.f k a0) (spec_l8Fault.f (k + 1) a0) := by
 intro a0 k
 obtain ⟨ih0, ih1, ih2⟩ := spec_l8Fault.mono_l k
 unfold spec_l8Fault.f
 repeat' with_reducible first | exact ih0 _ _ | exact ih1 _ _ | exact ih2 _ _ | exact spec_l8Deep.mono _ _ _ | exact spec_l8End.mono _ _ _ | exact spec_l8One.mono _ _ _ _ | exact spec_l8Twice.mono _ _ _ | exact LeO.refl _ | exact LeO.none _ | refine LeO.ite ?_ ?_ | refine LeO.bind ?_ (fun _ => ?_)
theorem spec_l8Fault.calls (k : Nat) (A0 : Option Addr) (c0 : Nat) (l0 : List (S81)) (r : Int) (w : World) (hr0 : Kd.C k81 w A0 l0.length l0) (hc0 : l0.length ≤ c0) (h : spec_l8Fault.f k l0 = some r) :
 Calls Tryd.prog 50 #[.slice A0 l0.length c0] w fun e w' => e = .returned (.int .i64 r) ∧ Below w.heap.size w w' := by
 have hu81 := Tryd.underlying81
 have HR0 := am hr0; have HC0 := am hc0; clear hr0 hc0
 have HB := am (Below.refl w.heap.size w)
 have H : (if (l0.length : Int) < 1 then (spec_l8Fault.j0 k l0 true) else (spec_l8Fault.j0 k l0 (decide ((l0.length : Int) > 20)))) = some r := h
 clear h; have HC2 := am H; clear H
 go_enter Tryd.func50, Tryd.ntmps50
 go_upto_region 1 with (fail)
 go_cut [13] (fun v13 wc => ∃ (kq : Nat) (x13_1 : Bool), v13 = .bool x13_1 ∧ Aside0 (spec_l8Fault.j0 kq l0 x13_1 = some r) ∧ Aside0 (kq ≤ k) ∧ Aside0 (Below w.heap.size w wc))
 case first =>
  have H := HC2.out
  clear HC2
  by_cases c3 : (l0.length : Int) < 1
  · rw [if_pos c3] at H
    have c3b0 : decide ((l0.length : Int) < 1) = true := dt c3
    have c3b1 : decide (l0.length < 1) = true := dt (by omega)
    clear c3
    (first | rw [c3b0] | (simp only [i64_w, i32_w]; rw [c3b0]) | skip)
    have H' := am H
    clear H
    go_wp2
    go_meet
    case rel => exact ⟨_, (true), pF, H', ⟨by first | omega | exact Nat.le_refl _⟩, ⟨pB⟩⟩
  · rw [if_neg c3] at H
    have c3b0 : decide ((l0.length : Int) < 1) = false := decide_eq_false c3
    have c3b1 : decide (l0.length < 1) = false := decide_eq_false (by omega)
    clear c3
    (first | rw [c3b0] | (simp only [i64_w, i32_w]; rw [c3b0]) | skip)
    have H' := am H
    clear H
    go_wp2
    go_meet
    case rel => exact ⟨_, (decide ((l0.length : Int) > 20)), pF, H', ⟨by first | omega | exact Nat.le_refl _⟩, ⟨pB⟩⟩
 case rest =>
  clear HC2
  obtain ⟨kq, x13_1, rfl, HA, HJ1, HB⟩ := hcut
  cases kq with
  | zero => exact absurd HA.out (by simp [spec_l8Fault.j0])
  | succ kj1 =>
   have H := HA.out
   clear HA
   simp only [spec_l8Fault.j0] at H
   by_cases c4 : x13_1 = true
   · subst c4
     have H1 : (some 2) = some r := by rw [if_pos rfl] at H; exact H
     clear H; have H := H1; clear H1
     obtain rfl := sj H
     go_wp2
     go_ret
     exact ⟨pE, pB⟩
   · replace c4 := Bool.eq_false_iff.mpr c4
     subst c4
     have H1 : (spec_l8Fault.l0 kj1 l0 0) = some r := by rw [if_neg (show ¬ (false = true) by decide)] at H; exact H
     clear H; have H := H1; clear H1
     have H' := am H
     clear H
     go_wp2
     go_loopg [3] kj1 (fun kq v3 w' => ∃ (x3_2 : Int), v3 = .int .i64 x3_2 ∧ Aside0 (spec_l8Fault.l0 kq l0 x3_2 = some r) ∧ Aside0 (kq ≤ kj1) ∧ Aside0 (Below w.heap.size w w'))
     case atStart => exact ⟨(0), pF, H', ⟨Nat.le_refl _⟩, ⟨pB⟩⟩
     case round =>
      clear H'
      (try clear c4)
      obtain ⟨x3_2, rfl, HA, HK2, HB⟩ := hrel
      cases gk with
      | zero => exact absurd HA.out (by simp [spec_l8Fault.l0])
      | succ k2 =>
       have H := HA.out
       clear HA
       simp only [spec_l8Fault.l0] at H
       by_cases c5 : x3_2 < (l0.length : Int)
       · rw [if_pos c5] at H
         have c5b0 : decide (x3_2 < (l0.length : Int)) = true := dt c5
         clear c5
         by_cases c6 : 0 ≤ x3_2
         · rw [if_pos c6] at H
           have c6b0 : decide (0 ≤ x3_2) = true := dt c6
           clear c6
           obtain ⟨t323, A70, H⟩ := bO H
           replace H : (if t323 = 0 then (spec_l8Fault.l0 k2 l0 (wrap64 (x3_2 + 1))) else (some t323)) = some r := H
           have A7 := am A70; clear A70
           by_cases c8 : t323 = 0
           · rw [if_pos c8] at H
             have c8b0 : (t323 == 0) = true := beq_iff_eq.mpr c8
             have c8b1 : (t323 != 0) = false := bne_eq_false_iff_eq.mpr c8
             clear c8
             have H' := am H
             clear H
             have p322 : 0 ≤ (x3_2 : Int) := pD
             have q322 : x3_2 < (l0.length : Int) := pD
             obtain ⟨ad322, e322, hx322_0, hx322_1, hx322_2⟩ := at_T81 HR0.out x3_2 p322 q322
             cases e322; replace hx322_0 := cb HB hx322_0; replace hx322_1 := cb HB hx322_1; replace hx322_2 := cb HB hx322_2; replace p322 := eq_true p322; replace q322 := eq_true q322
             go_wp2_with (first | ((with_reducible refine gC (f := 80) rfl ?_); refine goesL_ (some 23) rfl rfl Tryd.func80 (by kernel_rfl) rfl #[.pointer (some _)] rfl pA ?_; (refine Calls.mono (spec_l8One.calls k2 ((rd_T81 l0 x3_2).f0) ((rd_T81 l0 x3_2).f1) ((rd_T81 l0 x3_2).f2) t323 _ A7.out (hpp0_0 := by first | (with_unfolding_all assumption) | (dsimp only; assumption) | (dsimp only [Nat.zero_add]; exact (blk_cell (Aside0.out (by assumption)) _).trans rfl) | (go_simp; done)) (hpp0_1 := by first | (with_unfolding_all assumption) | (dsimp only; assumption) | (dsimp only [Nat.zero_add]; exact (blk_cell (Aside0.out (by assumption)) _).trans rfl) | (go_simp; done)) (hpp0_2 := by first | (with_unfolding_all assumption) | (dsimp only; assumption) | (dsimp only [Nat.zero_add]; exact (blk_cell (Aside0.out (by assumption)) _).trans rfl) | (go_simp; done))) ?_); rintro e w9 ⟨rfl, hb⟩; refine ⟨_, rfl, ?_⟩; have n_ := am (bz_ pB hb); clear HB; have HB := n_; clear n_; (try clear hb)))
             go_roundg k2
             case measure => have := HJ1.out; have := HK2.out; omega
             case rel => exact ⟨(wrap64 (x3_2 + 1)), pF, H', ⟨by have := HJ1.out; have := HK2.out; omega⟩, ⟨pB⟩⟩
           · rw [if_neg c8] at H
             have c8b0 : (t323 == 0) = false := beq_eq_false_iff_ne.mpr c8
             have c8b1 : (t323 != 0) = true := bne_iff_ne.mpr c8
             obtain rfl := sj H
             have p322 : 0 ≤ (x3_2 : Int) := pD
             have q322 : x3_2 < (l0.length : Int) := pD
             obtain ⟨ad322, e322, hx322_0, hx322_1, hx322_2⟩ := at_T81 HR0.out x3_2 p322 q322
             cases e322; replace hx322_0 := cb HB hx322_0; replace hx322_1 := cb HB hx322_1; replace hx322_2 := cb HB hx322_2; replace p322 := eq_true p322; replace q322 := eq_true q322
             go_wp2_with (first | ((with_reducible refine gC (f := 80) rfl ?_); refine goesL_ (some 23) rfl rfl Tryd.func80 (by kernel_rfl) rfl #[.pointer (some _)] rfl pA ?_; (refine Calls.mono (spec_l8One.calls k2 ((rd_T81 l0 x3_2).f0) ((rd_T81 l0 x3_2).f1) ((rd_T81 l0 x3_2).f2) t323 _ A7.out (hpp0_0 := by first | (with_unfolding_all assumption) | (dsimp only; assumption) | (dsimp only [Nat.zero_add]; exact (blk_cell (Aside0.out (by assumption)) _).trans rfl) | (go_simp; done)) (hpp0_1 := by first | (with_unfolding_all assumption) | (dsimp only; assumption) | (dsimp only [Nat.zero_add]; exact (blk_cell (Aside0.out (by assumption)) _).trans rfl) | (go_simp; done)) (hpp0_2 := by first | (with_unfolding_all assumption) | (dsimp only; assumption) | (dsimp only [Nat.zero_add]; exact (blk_cell (Aside0.out (by assumption)) _).trans rfl) | (go_simp; done))) ?_); rintro e w10 ⟨rfl, hb⟩; refine ⟨_, rfl, ?_⟩; have n_ := am (bz_ pB hb); clear HB; have HB := n_; clear n_; (try clear hb)))
             go_ret
             exact ⟨pE, pB⟩
         · rw [if_neg c6] at H
           exact absurd H (by simp)
       · rw [if_neg c5] at H
         have c5b0 : decide (x3_2 < (l0.length : Int)) = false := decide_eq_false c5
         clear c5
         obtain ⟨t324, A110, H⟩ := bO H
         replace H : (if t324 = (l0.length : Int) then (spec_l8Fault.l1 k2 l0 0) else (some 1)) = some r := H
         have A11 := am A110; clear A110
         by_cases c12 : t324 = (l0.length : Int)
         · rw [if_pos c12] at H
           have c12b0 : (t324 == (l0.length : Int)) = true := beq_iff_eq.mpr c12
           have c12b1 : (t324 != (l0.length : Int)) = false := bne_eq_false_iff_eq.mpr c12
           clear c12
           have H' := am H
           clear H
           go_wp2_with (first | ((with_reducible refine gC (f := 81) rfl ?_); refine goesL_ (some 28) rfl rfl Tryd.func81 (by kernel_rfl) rfl #[.slice A0 l0.length c0, .int .i64 0] rfl pA ?_; (with_reducible refine (spec_l8End.calls k2 _ _ l0 0 t324 _ ?side1 ?side2 A11.out).mono ?_); (case side1 => exact pC (Kd.C_below HR0.out HB.out)); (case side2 => exact HC0.out); rintro e w13 ⟨rfl, hb⟩; refine ⟨_, rfl, ?_⟩; have n_ := am (bz_ pB hb); clear HB; have HB := n_; clear n_; (try clear hb)))
           go_loopg [5] k2 (fun kq v5 w' => ∃ (x5_3 : Int), v5 = .int .i64 x5_3 ∧ Aside0 (spec_l8Fault.l1 kq l0 x5_3 = some r) ∧ Aside0 (kq ≤ k2) ∧ Aside0 (Below w.heap.size w w'))
           case atStart => exact ⟨(0), pF, H', ⟨Nat.le_refl _⟩, ⟨pB⟩⟩
           case round =>
            clear H'
            (try clear c4); (try clear c5); (try clear c5b0); (try clear c12); (try clear c12b0); (try clear c12b1)
            obtain ⟨x5_3, rfl, HA, HK3, HB⟩ := hrel
            cases gk with
            | zero => exact absurd HA.out (by simp [spec_l8Fault.l1])
            | succ k3 =>
             have H := HA.out
             clear HA
             simp only [spec_l8Fault.l1] at H
             by_cases c14 : x5_3 < (l0.length : Int)
             · rw [if_pos c14] at H
               have c14b0 : decide (x5_3 < (l0.length : Int)) = true := dt c14
               clear c14
               by_cases c15 : 0 ≤ x5_3
               · rw [if_pos c15] at H
                 have c15b0 : decide (0 ≤ x5_3) = true := dt c15
                 clear c15
                 by_cases c16 : ((rd_T81 l0 x5_3).f0) = 6
                 · rw [if_pos c16] at H
                   have c16b0 : (((rd_T81 l0 x5_3).f0) == 6) = true := beq_iff_eq.mpr c16
                   have c16b1 : (((rd_T81 l0 x5_3).f0) != 6) = false := bne_eq_false_iff_eq.mpr c16
                   clear c16
                   obtain ⟨t326, A170, H⟩ := bO H
                   replace H : (if t326 = true then (some 6) else (spec_l8Fault.l1 k3 l0 (wrap64 (x5_3 + 1)))) = some r := H
                   have A17 := am A170; clear A170
                   by_cases c18 : t326 = true
                   · subst c18
                     have H1 : (some 6) = some r := by rw [if_pos rfl] at H; exact H
                     clear H; have H := H1; clear H1
                     obtain rfl := sj H
                     have p325 : 0 ≤ (x5_3 : Int) := pD
                     have q325 : x5_3 < (l0.length : Int) := pD
                     obtain ⟨ad325, e325, hx325_0, hx325_1, hx325_2⟩ := at_T81 HR0.out x5_3 p325 q325
                     cases e325; replace hx325_0 := cb HB hx325_0; replace hx325_1 := cb HB hx325_1; replace hx325_2 := cb HB hx325_2; replace p325 := eq_true p325; replace q325 := eq_true q325
                     go_wp2_with (first | (go_at_call 82; (with_reducible refine (spec_l8Twice.calls k3 _ _ l0 x5_3 true _ ?side1 ?side2 A17.out).mono ?_); (case side1 => exact pC (Kd.C_below HR0.out HB.out)); (case side2 => exact HC0.out); rintro e w19 ⟨rfl, hb⟩; have n_ := am (bz_ pB hb); clear HB; have HB := n_; clear n_; (try clear hb)))
                     go_ret
                     exact ⟨pE, pB⟩
                   · replace c18 := Bool.eq_false_iff.mpr c18
                     subst c18
                     have H1 : (spec_l8Fault.l1 k3 l0 (wrap64 (x5_3 + 1))) = some r := by rw [if_neg (show ¬ (false = true) by decide)] at H; exact H
                     clear H; have H := H1; clear H1
                     have H' := am H
                     clear H
                     have p325 : 0 ≤ (x5_3 : Int) := pD
                     have q325 : x5_3 < (l0.length : Int) := pD
                     obtain ⟨ad325, e325, hx325_0, hx325_1, hx325_2⟩ := at_T81 HR0.out x5_3 p325 q325
                     cases e325; replace hx325_0 := cb HB hx325_0; replace hx325_1 := cb HB hx325_1; replace hx325_2 := cb HB hx325_2; replace p325 := eq_true p325; replace q325 := eq_true q325
                     go_wp2_with (first | (go_at_call 82; (with_reducible refine (spec_l8Twice.calls k3 _ _ l0 x5_3 false _ ?side1 ?side2 A17.out).mono ?_); (case side1 => exact pC (Kd.C_below HR0.out HB.out)); (case side2 => exact HC0.out); rintro e w20 ⟨rfl, hb⟩; have n_ := am (bz_ pB hb); clear HB; have HB := n_; clear n_; (try clear hb)))
                     go_roundg k3
                     case measure => have := HJ1.out; have := HK2.out; have := HK3.out; omega
                     case rel => exact ⟨(wrap64 (x5_3 + 1)), pF, H', ⟨by have := HJ1.out; have := HK2.out; have := HK3.out; omega⟩, ⟨pB⟩⟩
                 · rw [if_neg c16] at H
                   have c16b0 : (((rd_T81 l0 x5_3).f0) == 6) = false := beq_eq_false_iff_ne.mpr c16
                   have c16b1 : (((rd_T81 l0 x5_3).f0) != 6) = true := bne_iff_ne.mpr c16
                   have H' := am H
                   clear H
                   have p325 : 0 ≤ (x5_3 : Int) := pD
                   have q325 : x5_3 < (l0.length : Int) := pD
                   obtain ⟨ad325, e325, hx325_0, hx325_1, hx325_2⟩ := at_T81 HR0.out x5_3 p325 q325
                   cases e325; replace hx325_0 := cb HB hx325_0; replace hx325_1 := cb HB hx325_1; replace hx325_2 := cb HB hx325_2; replace p325 := eq_true p325; replace q325 := eq_true q325
                   go_wp2
                   go_roundg k3
                   case measure => have := HJ1.out; have := HK2.out; have := HK3.out; omega
                   case rel => exact ⟨(wrap64 (x5_3 + 1)), pF, H', ⟨by have := HJ1.out; have := HK2.out; have := HK3.out; omega⟩, ⟨pB⟩⟩
               · rw [if_neg c15] at H
                 exact absurd H (by simp)
             · rw [if_neg c14] at H
               have c14b0 : decide (x5_3 < (l0.length : Int)) = false := decide_eq_false c14
               clear c14
               obtain ⟨t327, A210, H⟩ := bO H
               replace H : (if t327 > 4 then (some 2) else (some 0)) = some r := H
               have A21 := am A210; clear A210
               by_cases c22 : t327 > 4
               · rw [if_pos c22] at H
                 have c22b0 : decide (4 < t327) = true := dt c22
                 clear c22
                 obtain rfl := sj H
                 go_wp2_with (first | ((with_reducible refine gC (f := 83) rfl ?_); refine goesL_ (some 50) rfl rfl Tryd.func83 (by kernel_rfl) rfl #[.slice A0 l0.length c0, .int .i64 0] rfl pA ?_; (with_reducible refine (spec_l8Deep.calls k3 _ _ l0 0 t327 _ ?side1 ?side2 A21.out).mono ?_); (case side1 => exact pC (Kd.C_below HR0.out HB.out)); (case side2 => exact HC0.out); rintro e w23 ⟨rfl, hb⟩; refine ⟨_, rfl, ?_⟩; have n_ := am (bz_ pB hb); clear HB; have HB := n_; clear n_; (try clear hb)))
                 go_ret
                 exact ⟨pE, pB⟩
               · rw [if_neg c22] at H
                 have c22b0 : decide (4 < t327) = false := decide_eq_false c22
                 clear c22
                 obtain rfl := sj H
                 go_wp2_with (first | ((with_reducible refine gC (f := 83) rfl ?_); refine goesL_ (some 50) rfl rfl Tryd.func83 (by kernel_rfl) rfl #[.slice A0 l0.length c0, .int .i64 0] rfl pA ?_; (with_reducible refine (spec_l8Deep.calls k3 _ _ l0 0 t327 _ ?side1 ?side2 A21.out).mono ?_); (case side1 => exact pC (Kd.C_below HR0.out HB.out)); (case side2 => exact HC0.out); rintro e w24 ⟨rfl, hb⟩; refine ⟨_, rfl, ?_⟩; have n_ := am (bz_ pB hb); clear HB; have HB := n_; clear n_; (try clear hb)))
                 go_ret
                 exact ⟨pE, pB⟩
         · rw [if_neg c12] at H
           have c12b0 : (t324 == (l0.length : Int)) = false := beq_eq_false_iff_ne.mpr c12
           have c12b1 : (t324 != (l0.length : Int)) = true := bne_iff_ne.mpr c12
           obtain rfl := sj H
           go_wp2_with (first | ((with_reducible refine gC (f := 81) rfl ?_); refine goesL_ (some 28) rfl rfl Tryd.func81 (by kernel_rfl) rfl #[.slice A0 l0.length c0, .int .i64 0] rfl pA ?_; (with_reducible refine (spec_l8End.calls k2 _ _ l0 0 t324 _ ?side1 ?side2 A11.out).mono ?_); (case side1 => exact pC (Kd.C_below HR0.out HB.out)); (case side2 => exact HC0.out); rintro e w25 ⟨rfl, hb⟩; refine ⟨_, rfl, ?_⟩; have n_ := am (bz_ pB hb); clear HB; have HB := n_; clear n_; (try clear hb)))
           go_ret
           exact ⟨pE, pB⟩
def spec_l8Entry.l0 : Nat → List (S81) → ByteArray → Int → Int → Option ((List (S81)) × Bool)
 | 0, _, _, _, _ => none
 | k + 1, x0, x1, x6, x7 => if 0 < (x0.length : Int) then (if x7 < ((rd_T81 x0 0).f1) then ((spec_l8End.f k x0 (wrap64 (x6 + 1))).bind fun t329 => (if 0 ≤ x6 then (if x6 < (x0.length : Int) then (if ((rd_T81 x0 x6).f2).toList = x1.toList then ((some (([] : List (S81)) : List (S81))).bind fun y331 => (if 0 ≤ (wrap64 (x6 + 1)) then (if (wrap64 (x6 + 1)) ≤ t329 then (if t329 ≤ (x0.length : Int) then ((some ((x0.take (t329 : Int).toNat).drop ((wrap64 (x6 + 1)) : Int).toNat : List (S81))).bind fun y334 => (if y331.length + y334.length < 4398046511104 then (some ((y331 ++ y334), true)) else (none))) else (none)) else (none)) else (none))) else (spec_l8Entry.l0 k x0 x1 t329 (wrap64 (x7 + 1)))) else (none)) else (none))) else (some (([] : List (S81)), false))) else (none)
def spec_l8Entry.f (k : Nat) (l0 : List (S81)) (a1 : ByteArray) : Option ((List (S81)) × Bool) := spec_l8Entry.l0 k l0 a1 1 0
theorem spec_l8Entry.mono_l : ∀ k, (∀ y0 y1 y2 y3, LeO (spec_l8Entry.l0 k y0 y1 y2 y3) (spec_l8Entry.l0 (k + 1) y0 y1 y2 y3))
 | 0 => fun _ _ _ _ r h => by simp [spec_l8Entry.l0] at h
 | k + 1 => by
  have ih0 := spec_l8Entry.mono_l k
  · intro y0 y1 y2 y3
    unfold spec_l8Entry.l0
    repeat' with_reducible first | exact ih0 _ _ _ _ | exact spec_l8End.mono _ _ _ | exact LeO.refl _ | exact LeO.none _ | refine LeO.ite ?_ ?_ | refine LeO.bind ?_ (fun _ => ?_)
theorem spec_l8Entry.mono : ∀ a0 a1 k, LeO (spec_l8Entry.f k a0 a1) (spec_l8Entry.f (k + 1) a0 a1) := by
 intro a0 a1 k
 have ih0 := spec_l8Entry.mono_l k
 unfold spec_l8Entry.f
 repeat' with_reducible first | exact ih0 _ _ _ _ | exact spec_l8End.mono _ _ _ | exact LeO.refl _ | exact LeO.none _ | refine LeO.ite ?_ ?_ | refine LeO.bind ?_ (fun _ => ?_)
theorem spec_l8Entry.calls (k : Nat) (A0 : Option Addr) (c0 : Nat) (l0 : List (S81)) (a1 : ByteArray) (r1 : List (S81)) (r2 : Bool) (w : World) (hr0 : Kd.C k81 w A0 l0.length l0) (hc0 : l0.length ≤ c0) (h : spec_l8Entry.f k l0 a1 = some (r1, r2)) :
 Calls Tryd.prog 61 #[.slice A0 l0.length c0, .string a1] w fun e w' => ∃ v0_ : Value, e = .returned (.tuple #[v0_, .bool r2]) ∧ Kd.R k81 81 w' w.heap.size (fun _ => True) v0_ r1 ∧ Below w.heap.size w w' := by
 have HR0 := am hr0; have HC0 := am hc0; clear hr0 hc0
 have HB := am (Below.refl w.heap.size w)
 have H : (spec_l8Entry.l0 k l0 a1 1 0) = some (r1, r2) := h
 clear h
 have H' := am H
 clear H
 go_enter Tryd.func61, Tryd.ntmps61
 go_wp2
 go_loopg [6, 7] k (fun kq v6 v7 w' => ∃ (x6_1 : Int) (x7_1 : Int), v6 = .int .i64 x6_1 ∧ v7 = .int .i64 x7_1 ∧ Aside0 (spec_l8Entry.l0 kq l0 a1 x6_1 x7_1 = some (r1, r2)) ∧ Aside0 (kq ≤ k) ∧ Aside0 (Below w.heap.size w w'))
 case atStart => exact ⟨(1), (0), pF, pF, H', ⟨Nat.le_refl _⟩, ⟨pB⟩⟩
 case round =>
  clear H'
  obtain ⟨x6_1, x7_1, rfl, rfl, HA, HK1, HB⟩ := hrel
  cases gk with
  | zero => exact absurd HA.out (by simp [spec_l8Entry.l0])
  | succ k1 =>
   have H := HA.out
   clear HA
   simp only [spec_l8Entry.l0] at H
   by_cases c3 : 0 < (l0.length : Int)
   · rw [if_pos c3] at H
     have c3b0 : decide (0 < (l0.length : Int)) = true := dt c3
     have c3b1 : decide (0 < l0.length) = true := dt (by omega)
     clear c3
     by_cases c4 : x7_1 < ((rd_T81 l0 0).f1)
     · rw [if_pos c4] at H
       have c4b0 : decide (x7_1 < ((rd_T81 l0 0).f1)) = true := dt c4
       clear c4
       obtain ⟨t329, A50, H⟩ := bO H
       replace H : (if 0 ≤ x6_1 then (if x6_1 < (l0.length : Int) then (if ((rd_T81 l0 x6_1).f2).toList = a1.toList then ((some (([] : List (S81)) : List (S81))).bind fun y331 => (if 0 ≤ (wrap64 (x6_1 + 1)) then (if (wrap64 (x6_1 + 1)) ≤ t329 then (if t329 ≤ (l0.length : Int) then ((some ((l0.take (t329 : Int).toNat).drop ((wrap64 (x6_1 + 1)) : Int).toNat : List (S81))).bind fun y334 => (if y331.length + y334.length < 4398046511104 then (some ((y331 ++ y334), true)) else (none))) else (none)) else (none)) else (none))) else (spec_l8Entry.l0 k1 l0 a1 t329 (wrap64 (x7_1 + 1)))) else (none)) else (none)) = some (r1, r2) := H
       have A5 := am A50; clear A50
       by_cases c6 : 0 ≤ x6_1
       · rw [if_pos c6] at H
         have c6b0 : decide (0 ≤ x6_1) = true := dt c6
         clear c6
         by_cases c7 : x6_1 < (l0.length : Int)
         · rw [if_pos c7] at H
           have c7b0 : decide (x6_1 < (l0.length : Int)) = true := dt c7
           clear c7
           by_cases c8 : ((rd_T81 l0 x6_1).f2).toList = a1.toList
           · rw [if_pos c8] at H
             have c8b0 : (((rd_T81 l0 x6_1).f2).toList == a1.toList) = true := beq_iff_eq.mpr c8
             have c8b1 : (((rd_T81 l0 x6_1).f2).toList != a1.toList) = false := bne_eq_false_iff_eq.mpr c8
             clear c8
             obtain ⟨y331, hy331⟩ : ∃ y_ : List (S81), y_ = (([] : List (S81))) := ⟨_, rfl⟩
             replace H : (if 0 ≤ (wrap64 (x6_1 + 1)) then (if (wrap64 (x6_1 + 1)) ≤ t329 then (if t329 ≤ (l0.length : Int) then ((some ((l0.take (t329 : Int).toNat).drop ((wrap64 (x6_1 + 1)) : Int).toNat : List (S81))).bind fun y334 => (if y331.length + y334.length < 4398046511104 then (some ((y331 ++ y334), true)) else (none))) else (none)) else (none)) else (none)) = some (r1, r2) := by first | (rw [hy331]; with_reducible exact H) | (have H2_ := (Option.bind_some _ _).symm.trans H; rw [hy331]; with_reducible exact H2_) | (have H2_ := (Option.bind_some _ _).symm.trans H; with_reducible exact H2_) | with_reducible exact H | (rw [hy331]; exact H) | exact H
             have Ny331 := am hy331; clear hy331
             obtain ⟨ji9, hji9⟩ : ∃ j_ : Int, (wrap64 (x6_1 + 1)) = j_ := ⟨_, rfl⟩
             replace H : (if 0 ≤ (ji9) then (if (ji9) ≤ t329 then (if t329 ≤ (l0.length : Int) then ((some ((l0.take (t329 : Int).toNat).drop ((ji9) : Int).toNat : List (S81))).bind fun y334 => (if y331.length + y334.length < 4398046511104 then (some ((y331 ++ y334), true)) else (none))) else (none)) else (none)) else (none)) = some (r1, r2) := by first | (rw [hji9] at H; exact H) | (simp only [hji9] at H ⊢; exact H)
             (try rw [hji9] at A5)
             have hji9w : (IntKind.i64.wrap (x6_1 + 1)) = ji9 := (i64_w _).trans hji9
             by_cases c10 : 0 ≤ (ji9)
             · rw [if_pos c10] at H
               have c10b0 := eq_true c10
               have c10b1 : decide (0 ≤ (ji9)) = true := dt c10
               clear c10
               by_cases c11 : (ji9) ≤ t329
               · rw [if_pos c11] at H
                 have c11b0 := eq_true c11
                 have c11b1 : decide ((ji9) ≤ t329) = true := dt c11
                 clear c11
                 by_cases c12 : t329 ≤ (l0.length : Int)
                 · rw [if_pos c12] at H
                   have c12b0 := eq_true c12
                   have c12b1 : decide (t329 ≤ (l0.length : Int)) = true := dt c12
                   clear c12
                   obtain ⟨y334, hy334⟩ : ∃ y_ : List (S81), y_ = ((l0.take (t329 : Int).toNat).drop ((ji9) : Int).toNat) := ⟨_, rfl⟩
                   replace H : (if y331.length + y334.length < 4398046511104 then (some ((y331 ++ y334), true)) else (none)) = some (r1, r2) := by first | (rw [hy334]; with_reducible exact H) | (have H2_ := (Option.bind_some _ _).symm.trans H; rw [hy334]; with_reducible exact H2_) | (have H2_ := (Option.bind_some _ _).symm.trans H; with_reducible exact H2_) | with_reducible exact H | (rw [hy334]; exact H) | exact H
                   have Ny334 := am hy334; clear hy334
                   by_cases c13 : y331.length + y334.length < 4398046511104
                   · rw [if_pos c13] at H
                     have LMc13 := am c13; clear c13
                     obtain ⟨y338, hy338⟩ : ∃ y_ : List (S81), y_ = (y331 ++ y334) := ⟨_, rfl⟩
                     replace H : (some (y338, true)) = some (r1, r2) := by first | (rw [hy338]; with_reducible exact H) | (have H2_ := (Option.bind_some _ _).symm.trans H; rw [hy338]; with_reducible exact H2_) | (have H2_ := (Option.bind_some _ _).symm.trans H; with_reducible exact H2_) | with_reducible exact H | (rw [hy338]; exact H) | exact H
                     have Ny338 := am hy338; clear hy338
                     simp only [Option.some.injEq, Prod.mk.injEq] at H
                     obtain ⟨rfl, rfl⟩ := H
                     have p328 : 0 ≤ (0 : Int) := (by omega)
                     have q328 : 0 < (l0.length : Int) := pD
                     obtain ⟨ad328, e328, hx328_0, hx328_1, hx328_2⟩ := at_T81 HR0.out 0 p328 q328
                     cases e328
                     have qi328 : (0 < l0.length) = True := eq_true (by omega)
                     (try rw [z0, zm, az] at hx328_0); (try rw [z0, zm, az] at hx328_1); (try rw [z0, zm, az] at hx328_2); replace hx328_0 := cb HB hx328_0; replace hx328_1 := cb HB hx328_1; replace hx328_2 := cb HB hx328_2; replace p328 := eq_true p328; replace q328 := eq_true q328
                     go_wp2_with (first | ((with_reducible refine gC (f := 81) rfl ?_); refine goesL_ (some 20) rfl rfl Tryd.func81 (by kernel_rfl) rfl #[.slice (some ad328) l0.length c0, .int .i64 ji9] rfl (by (try simp only [List.map_toArray, List.map_cons, List.map_nil]); first | done | (simp only [hji9]; rfl) | rfl | (simp only [List.length_drop, List.length_take]; rfl)) ?_; (with_reducible refine (spec_l8End.calls k1 _ _ l0 ji9 t329 _ ?side1 ?side2 A5.out).mono ?_); (case side1 => exact pC (Kd.C_below HR0.out HB.out)); (case side2 => exact HC0.out); rintro e w14 ⟨rfl, hb⟩; refine ⟨_, rfl, ?_⟩; have n_ := am (bz_ pB hb); clear HB; have HB := n_; clear n_; (try clear hb); have p330 : 0 ≤ (x6_1 : Int) := pD; have q330 : x6_1 < (l0.length : Int) := pD; obtain ⟨ad330, e330, hx330_0, hx330_1, hx330_2⟩ := at_T81 HR0.out x6_1 p330 q330; obtain rfl : ad328 = ad330 := (by injection e330); replace hx330_0 := cb HB hx330_0; replace hx330_1 := cb HB hx330_1; replace hx330_2 := cb HB hx330_2; replace p330 := eq_true p330; replace q330 := eq_true q330) | ((with_reducible refine gate_dst (N := 28) rfl ?_); refine Kd.R_lit k81 _ 81 ?hg (N := 28) ?hd (xs := ([] : List (S81))) (inner := []) (ok := fun _ => True) (okp := fun _ => True) ?hr ?hp (fun _ hk => hk) trivial (Below.refl _ _) (Nat.le_refl _) (by simp) ?_; (case hd => rfl); (case hg => rfl); (case hr => first | (go_simp; done) | (go_simp; rfl)); (case hp => exact (Reps.none _ _)); intro v332 w15 ho16 hb hg_ hnew_; clear hg_ hnew_; (first | rw [← Ny331.out] at ho16 | (simp only [Int.reduceToNat] at ho16; rw [← Ny331.out] at ho16)); have n_ := t2 (rL ho16 (bs_ pB)) (bz_ pB hb); clear HB; obtain ⟨HO333, HB⟩ := n_; clear hb ho16; have q17 : (t329 : Int) ≤ ((l0.length : Int) : Int) := pD; obtain ⟨i017, hi017, _, hsz17, _⟩ := info_parts info81; have hroom17 : l0.length ≤ c0 := HC0.out; have hC17 : Kd.C k81 _ (some ad328) l0.length l0 := HR0.out; have ql17 : ((ji9) : Int) ≤ (t329 : Int) := pD; have q017 : (0 : Int) ≤ ((ji9) : Int) := pD; have hcut17 := cut_mid (P := Tryd.prog) 44 81 .i64 .i64 Tryd.underlying44 hi017 3 hsz17 (some ad328) l0.length c0 (ji9) t329 q017 ql17 q17 hroom17; have hr17 := Kd.C_mid (lo := ((ji9) : Int).toNat) (hi := (t329 : Int).toNat) (c := c0) hC17 (by omega) (by omega) hroom17; obtain ⟨A17, hA17⟩ : ∃ A1, A1 = (if c0 = ((ji9) : Int).toNat then (some ad328) else ((some ad328) : Option Addr).map (·.add (((ji9) : Int).toNat * 3))) := ⟨_, rfl⟩; obtain ⟨c17, hc17⟩ : ∃ c1, c1 = c0 - ((ji9) : Int).toNat := ⟨_, rfl⟩; have hy17 : y334.length = (t329 : Int).toNat - ((ji9) : Int).toNat := (by rw [Ny334.out, List.length_drop, List.length_take] <;> omega); rw [show ((l0).take (t329 : Int).toNat).drop ((ji9) : Int).toNat = y334 from Ny334.out.symm] at hr17; replace hr17 : Kd.C k81 _ A17 y334.length y334 := (by rw [hA17]; exact hr17); rw [← hy17, ← hA17, ← hc17] at hcut17; have HR337 := am hr17; have HC337 := am (show y334.length ≤ c17 from by rw [hy17, hc17]; exact Nat.sub_le_sub_right (Nat.le_trans (by omega) hroom17) _); clear hr17 hC17 hroom17 hi017 hsz17 hc17; have KY17 := am hy17; have KA17 := am hA17; clear hy17 hA17; replace q17 := eq_true q17) | ((with_reducible refine gB (b := .append) (xs := #[.tmp 28, .tmp 33]) rfl ?_); at_builtin; refine Kd.R_append_rows k81 (w0 := w) w.heap.size rfl (.tmp 28) (.tmp 33) 44 81 (.agg #[(.int .i64 0), (.int .i64 0), (.string ⟨#[]⟩)]) 32 rfl Tryd.underlying44 info81 rfl (by decide) (by omega) v332 y331 y334 _ _ _ (fun _ => True) (fun _ => False) rfl rfl ?aO ?aR (fun _ _ h => h) (fun _ h => h.elim) ?aF ?aB ?aS ?aL ?_; (case aR => exact pC (Kd.C_below HR337.out HB.out)); (case aB => exact pB); (case aF => exact (fun _ _ => trivial)); (case aO => exact (pR HO333)); (case aS => exact (bs_ pB)); (case aL => have := LMc13.out; omega); intro v339 w18 ho hb hg hat; rw [← Ny338.out] at ho; have n_ := t2 (hb) (ho); clear HB HO333; obtain ⟨HB, HO340⟩ := n_; clear ho hb hg hat))
                     go_ret2
                     exact ⟨_, by first | rfl | (simp [errW_none, errW_some] <;> rfl) | (simp only [← hji9]; first | rfl | (simp [errW_none, errW_some] <;> rfl)) | (simp [*, errW_none, errW_some] <;> rfl), (pR HO340), pB⟩
                   · rw [if_neg c13] at H
                     exact absurd H (by simp)
                 · rw [if_neg c12] at H
                   exact absurd H (by simp)
               · rw [if_neg c11] at H
                 exact absurd H (by simp)
             · rw [if_neg c10] at H
               exact absurd H (by simp)
           · rw [if_neg c8] at H
             have c8b0 : (((rd_T81 l0 x6_1).f2).toList == a1.toList) = false := beq_eq_false_iff_ne.mpr c8
             have c8b1 : (((rd_T81 l0 x6_1).f2).toList != a1.toList) = true := bne_iff_ne.mpr c8
             have H' := am H
             clear H
             have p328 : 0 ≤ (0 : Int) := (by omega)
             have q328 : 0 < (l0.length : Int) := pD
             obtain ⟨ad328, e328, hx328_0, hx328_1, hx328_2⟩ := at_T81 HR0.out 0 p328 q328
             cases e328
             have qi328 : (0 < l0.length) = True := eq_true (by omega)
             (try rw [z0, zm, az] at hx328_0); (try rw [z0, zm, az] at hx328_1); (try rw [z0, zm, az] at hx328_2); replace hx328_0 := cb HB hx328_0; replace hx328_1 := cb HB hx328_1; replace hx328_2 := cb HB hx328_2; replace p328 := eq_true p328; replace q328 := eq_true q328
             go_wp2_with (first | ((with_reducible refine gC (f := 81) rfl ?_); refine goesL_ (some 20) rfl rfl Tryd.func81 (by kernel_rfl) rfl #[.slice (some ad328) l0.length c0, .int .i64 (wrap64 (x6_1 + 1))] rfl pA ?_; (with_reducible refine (spec_l8End.calls k1 _ _ l0 (wrap64 (x6_1 + 1)) t329 _ ?side1 ?side2 A5.out).mono ?_); (case side1 => exact pC (Kd.C_below HR0.out HB.out)); (case side2 => exact HC0.out); rintro e w19 ⟨rfl, hb⟩; refine ⟨_, rfl, ?_⟩; have n_ := am (bz_ pB hb); clear HB; have HB := n_; clear n_; (try clear hb); have p330 : 0 ≤ (x6_1 : Int) := pD; have q330 : x6_1 < (l0.length : Int) := pD; obtain ⟨ad330, e330, hx330_0, hx330_1, hx330_2⟩ := at_T81 HR0.out x6_1 p330 q330; obtain rfl : ad328 = ad330 := (by injection e330); replace hx330_0 := cb HB hx330_0; replace hx330_1 := cb HB hx330_1; replace hx330_2 := cb HB hx330_2; replace p330 := eq_true p330; replace q330 := eq_true q330))
             go_roundg k1
             case measure => have := HK1.out; omega
             case rel => exact ⟨(t329), (wrap64 (x7_1 + 1)), pF, pF, H', ⟨by have := HK1.out; omega⟩, ⟨pB⟩⟩
         · rw [if_neg c7] at H
           exact absurd H (by simp)
       · rw [if_neg c6] at H
         exact absurd H (by simp)
     · rw [if_neg c4] at H
       have c4b0 : decide (x7_1 < ((rd_T81 l0 0).f1)) = false := decide_eq_false c4
       clear c4
       simp only [Option.some.injEq, Prod.mk.injEq] at H
       obtain ⟨rfl, rfl⟩ := H
       have p328 : 0 ≤ (0 : Int) := (by omega)
       have q328 : 0 < (l0.length : Int) := pD
       obtain ⟨ad328, e328, hx328_0, hx328_1, hx328_2⟩ := at_T81 HR0.out 0 p328 q328
       cases e328
       have qi328 : (0 < l0.length) = True := eq_true (by omega)
       (try rw [z0, zm, az] at hx328_0); (try rw [z0, zm, az] at hx328_1); (try rw [z0, zm, az] at hx328_2); replace hx328_0 := cb HB hx328_0; replace hx328_1 := cb HB hx328_1; replace hx328_2 := cb HB hx328_2; replace p328 := eq_true p328; replace q328 := eq_true q328
       go_wp2
       go_ret2
       exact ⟨_, pE, by first | exact Kd.R_nil _ _ _ _ _ | exact Kd.N_nil _ _ _ _ _ | exact Kd.V_nil _ _ _ _ _ | exact Kd.Q_nil _ _ _ _ _ | exact Kd.S_nil _ _ _ _ _, pB⟩
   · rw [if_neg c3] at H
     exact absurd H (by simp)
def spec_MapEntry.f (k : Nat) (l0 : List (S81)) (a1 : ByteArray) : Option (Int × (List (S81))) := (spec_l8Fault.f k l0).bind fun t342 => (if t342 = 0 then (if 0 < (l0.length : Int) then (if ((rd_T81 l0 0).f0) = 6 then ((spec_l8Entry.f k l0 a1).bind fun bt344 => (if bt344.2 = true then (some (0, bt344.1)) else (some (4, ([] : List (S81)))))) else (some (1, ([] : List (S81))))) else (none)) else (some (t342, ([] : List (S81)))))
theorem spec_MapEntry.mono : ∀ a0 a1 k, LeO (spec_MapEntry.f k a0 a1) (spec_MapEntry.f (k + 1) a0 a1) := by
 intro a0 a1 k
 unfold spec_MapEntry.f
 repeat' with_reducible first | exact spec_l8Entry.mono _ _ _ | exact spec_l8Fault.mono _ _ | exact LeO.refl _ | exact LeO.none _ | refine LeO.ite ?_ ?_ | refine LeO.bind ?_ (fun _ => ?_)
theorem spec_MapEntry.calls (k : Nat) (A0 : Option Addr) (c0 : Nat) (l0 : List (S81)) (a1 : ByteArray) (r1 : Int) (r2 : List (S81)) (w : World) (hr0 : Kd.C k81 w A0 l0.length l0) (hc0 : l0.length ≤ c0) (h : spec_MapEntry.f k l0 a1 = some (r1, r2)) :
 Calls Tryd.prog 29 #[.slice A0 l0.length c0, .string a1] w fun e w' => ∃ v1_ : Value, e = .returned (.agg #[.int .i64 r1, v1_]) ∧ Kd.R k81 81 w' w.heap.size (fun _ => True) v1_ r2 ∧ Below w.heap.size w w' := by
 have hu58 := Tryd.underlying58
 have HR0 := am hr0; have HC0 := am hc0; clear hr0 hc0
 have HB := am (Below.refl w.heap.size w)
 have H : ((spec_l8Fault.f k l0).bind fun t342 => (if t342 = 0 then (if 0 < (l0.length : Int) then (if ((rd_T81 l0 0).f0) = 6 then ((spec_l8Entry.f k l0 a1).bind fun bt344 => (if bt344.2 = true then (some (0, bt344.1)) else (some (4, ([] : List (S81)))))) else (some (1, ([] : List (S81))))) else (none)) else (some (t342, ([] : List (S81)))))) = some (r1, r2) := h
 clear h
 obtain ⟨t342, A30, H⟩ := bO H
 replace H : (if t342 = 0 then (if 0 < (l0.length : Int) then (if ((rd_T81 l0 0).f0) = 6 then ((spec_l8Entry.f k l0 a1).bind fun bt344 => (if bt344.2 = true then (some (0, bt344.1)) else (some (4, ([] : List (S81)))))) else (some (1, ([] : List (S81))))) else (none)) else (some (t342, ([] : List (S81))))) = some (r1, r2) := H
 have A3 := am A30; clear A30
 by_cases c4 : t342 = 0
 · rw [if_pos c4] at H
   have c4b0 : (t342 == 0) = true := beq_iff_eq.mpr c4
   have c4b1 : (t342 != 0) = false := bne_eq_false_iff_eq.mpr c4
   clear c4
   by_cases c5 : 0 < (l0.length : Int)
   · rw [if_pos c5] at H
     have c5b0 : decide (0 < (l0.length : Int)) = true := dt c5
     have c5b1 : decide (0 < l0.length) = true := dt (by omega)
     clear c5
     by_cases c6 : ((rd_T81 l0 0).f0) = 6
     · rw [if_pos c6] at H
       have c6b0 : (((rd_T81 l0 0).f0) == 6) = true := beq_iff_eq.mpr c6
       have c6b1 : (((rd_T81 l0 0).f0) != 6) = false := bne_eq_false_iff_eq.mpr c6
       clear c6
       obtain ⟨⟨t344, t345⟩, A70, H⟩ := bO H
       replace H : (if t345 = true then (some (0, t344)) else (some (4, ([] : List (S81))))) = some (r1, r2) := H
       have A7 := am A70; clear A70
       by_cases c8 : t345 = true
       · subst c8
         have H1 : (some (0, t344)) = some (r1, r2) := by rw [if_pos rfl] at H; exact H
         clear H; have H := H1; clear H1
         simp only [Option.some.injEq, Prod.mk.injEq] at H
         obtain ⟨rfl, rfl⟩ := H
         go_enter Tryd.func29, Tryd.ntmps29
         go_wp2_with (first | ((with_reducible refine gate_dst (N := 4) rfl ?_); refine box_event ?hg (N := 4) ?hd (cs := #[.int .i64 0, .slice none 0 0]) (t := 58) ?hr ?_; (case hd => rfl); (case hg => rfl); (case hr => first | (go_simp; done) | (go_simp; rfl)); intro gb341 hg w9 hbox hb; have n_ := t4 (bz_ pB hb) (hbox) ((by rw [hg]; exact (bs_ pB) : w.heap.size ≤ gb341)) ((by rw [hg]; exact (bs_ pB) : w.heap.size ≤ gb341)); clear HB; obtain ⟨HB, BK341, GW341, GE341⟩ := n_; clear hb hbox hg) | ((with_reducible refine gC (f := 50) rfl ?_); refine goesL_ (some 9) rfl rfl Tryd.func50 (by kernel_rfl) rfl #[.slice A0 l0.length c0] rfl pA ?_; (with_reducible refine (spec_l8Fault.calls k _ _ l0 t342 _ ?side1 ?side2 A3.out).mono ?_); (case side1 => exact pC (Kd.C_below HR0.out HB.out)); (case side2 => exact HC0.out); rintro e w10 ⟨rfl, hb⟩; refine ⟨_, rfl, ?_⟩; have n_ := t2 (blk_below (g := gb341) (o := .cells #[.int .i64 0, .slice none 0 0] 58 (0, 0)) (pK BK341) hb) (bz_ pB hb); clear BK341 HB; obtain ⟨BK341, HB⟩ := n_; (try clear hb); have p343 : 0 ≤ (0 : Int) := (by omega); have q343 : 0 < (l0.length : Int) := pD; obtain ⟨ad343, e343, hx343_0, hx343_1, hx343_2⟩ := at_T81 HR0.out 0 p343 q343; cases e343; have qi343 : (0 < l0.length) = True := eq_true (by omega); (try rw [show ((0 : Int)).toNat = 0 from rfl] at hx343_0); (try rw [show 0 * 3 = 0 from rfl] at hx343_0); (try rw [Addr.add_zero'] at hx343_0); (try rw [show ((0 : Int)).toNat = 0 from rfl] at hx343_1); (try rw [show 0 * 3 = 0 from rfl] at hx343_1); (try rw [Addr.add_zero'] at hx343_1); (try rw [show ((0 : Int)).toNat = 0 from rfl] at hx343_2); (try rw [show 0 * 3 = 0 from rfl] at hx343_2); (try rw [Addr.add_zero'] at hx343_2); replace hx343_0 := cb HB hx343_0; replace hx343_1 := cb HB hx343_1; replace hx343_2 := cb HB hx343_2; replace p343 := eq_true p343; replace q343 := eq_true q343) | ((with_reducible refine gC (f := 61) rfl ?_); refine goesL_ (some 23) rfl rfl Tryd.func61 (by kernel_rfl) rfl #[.slice (some ad343) l0.length c0, .string a1] rfl pA ?_; (with_reducible refine (spec_l8Entry.calls k _ _ l0 a1 t344 true _ ?side1 ?side2 A7.out).mono ?_); (case side1 => exact pC (Kd.C_below HR0.out HB.out)); (case side2 => exact HC0.out); rintro e w11 ⟨v346, rfl, ho0, hb⟩; refine ⟨_, rfl, ?_⟩; have n_ := t3 (rL ho0 (bs_ pB)) (blk_below (g := gb341) (o := .cells #[.int .i64 0, .slice none 0 0] 58 (0, 0)) (pK BK341) hb) (bz_ pB hb); clear BK341 HB; obtain ⟨HO347, BK341, HB⟩ := n_; (try clear hb); (try clear ho0); obtain ⟨Ao12, co12, eo12⟩ := rS HO347.out; subst eo12; have hcz13_0 : w11.cell? ⟨gb341, 0, none⟩ = some (.int .i64 0) := (blk_cell BK341.out 0).trans rfl; have hcz13_1 : w11.cell? ⟨gb341, 1, none⟩ = some (.slice none 0 0) := (blk_cell BK341.out 1).trans rfl; have hfz13_0 := blk_frozen BK341.out 0; have hfz13_1 := blk_frozen BK341.out 1))
         refine bodyPost_ret (results_cell_row rfl _ _ gb341 58 #[.int .i64 0, .slice Ao12 t344.length co12] (0, 0) _ rfl (by (with_reducible repeat (first | refine blk_drewN ?_ _ | refine blk_drew ?_ | refine blk_alloc ?_ _)); refine blk_put (cs := #[.int .i64 0, .slice none 0 0]) ?_ 1 _ rfl; (with_reducible repeat (first | refine blk_drewN ?_ _ | refine blk_drew ?_ | refine blk_alloc ?_ _)); refine blk_put (cs := #[.int .i64 0, .slice none 0 0]) ?_ 0 _ rfl; (with_reducible repeat (first | refine blk_drewN ?_ _ | refine blk_drew ?_ | refine blk_alloc ?_ _)); exact BK341.out) Tryd.underlying58 rfl (by kernel_rfl)) rfl ?_
         exact ⟨_, pE, (pT (Kd.R_mono (Kd.R_far (p := ⟨gb341, 1, none⟩) (Kd.R_far (p := ⟨gb341, 0, none⟩) (Kd.R_types HO347.out BK341.out (by decide)) (fun _ hk => hk.2) (.int .i64 0)) (fun _ hk => hk.2) (.slice Ao12 t344.length co12)) (fun _ hk => trivial))), pB⟩
       · replace c8 := Bool.eq_false_iff.mpr c8
         subst c8
         have H1 : (some (4, ([] : List (S81)))) = some (r1, r2) := by rw [if_neg (show ¬ (false = true) by decide)] at H; exact H
         clear H; have H := H1; clear H1
         simp only [Option.some.injEq, Prod.mk.injEq] at H
         obtain ⟨rfl, rfl⟩ := H
         go_enter Tryd.func29, Tryd.ntmps29
         go_wp2_with (first | ((with_reducible refine gate_dst (N := 4) rfl ?_); refine box_event ?hg (N := 4) ?hd (cs := #[.int .i64 0, .slice none 0 0]) (t := 58) ?hr ?_; (case hd => rfl); (case hg => rfl); (case hr => first | (go_simp; done) | (go_simp; rfl)); intro gb341 hg w14 hbox hb; have n_ := t4 (bz_ pB hb) (hbox) ((by rw [hg]; exact (bs_ pB) : w.heap.size ≤ gb341)) ((by rw [hg]; exact (bs_ pB) : w.heap.size ≤ gb341)); clear HB; obtain ⟨HB, BK341, GW341, GE341⟩ := n_; clear hb hbox hg) | ((with_reducible refine gC (f := 50) rfl ?_); refine goesL_ (some 9) rfl rfl Tryd.func50 (by kernel_rfl) rfl #[.slice A0 l0.length c0] rfl pA ?_; (with_reducible refine (spec_l8Fault.calls k _ _ l0 t342 _ ?side1 ?side2 A3.out).mono ?_); (case side1 => exact pC (Kd.C_below HR0.out HB.out)); (case side2 => exact HC0.out); rintro e w15 ⟨rfl, hb⟩; refine ⟨_, rfl, ?_⟩; have n_ := t2 (blk_below (g := gb341) (o := .cells #[.int .i64 0, .slice none 0 0] 58 (0, 0)) (pK BK341) hb) (bz_ pB hb); clear BK341 HB; obtain ⟨BK341, HB⟩ := n_; (try clear hb); have p343 : 0 ≤ (0 : Int) := (by omega); have q343 : 0 < (l0.length : Int) := pD; obtain ⟨ad343, e343, hx343_0, hx343_1, hx343_2⟩ := at_T81 HR0.out 0 p343 q343; cases e343; have qi343 : (0 < l0.length) = True := eq_true (by omega); (try rw [show ((0 : Int)).toNat = 0 from rfl] at hx343_0); (try rw [show 0 * 3 = 0 from rfl] at hx343_0); (try rw [Addr.add_zero'] at hx343_0); (try rw [show ((0 : Int)).toNat = 0 from rfl] at hx343_1); (try rw [show 0 * 3 = 0 from rfl] at hx343_1); (try rw [Addr.add_zero'] at hx343_1); (try rw [show ((0 : Int)).toNat = 0 from rfl] at hx343_2); (try rw [show 0 * 3 = 0 from rfl] at hx343_2); (try rw [Addr.add_zero'] at hx343_2); replace hx343_0 := cb HB hx343_0; replace hx343_1 := cb HB hx343_1; replace hx343_2 := cb HB hx343_2; replace p343 := eq_true p343; replace q343 := eq_true q343) | ((with_reducible refine gC (f := 61) rfl ?_); refine goesL_ (some 23) rfl rfl Tryd.func61 (by kernel_rfl) rfl #[.slice (some ad343) l0.length c0, .string a1] rfl pA ?_; (with_reducible refine (spec_l8Entry.calls k _ _ l0 a1 t344 false _ ?side1 ?side2 A7.out).mono ?_); (case side1 => exact pC (Kd.C_below HR0.out HB.out)); (case side2 => exact HC0.out); rintro e w16 ⟨v346, rfl, ho0, hb⟩; refine ⟨_, rfl, ?_⟩; have n_ := t3 (rL ho0 (bs_ pB)) (blk_below (g := gb341) (o := .cells #[.int .i64 0, .slice none 0 0] 58 (0, 0)) (pK BK341) hb) (bz_ pB hb); clear BK341 HB; obtain ⟨HO347, BK341, HB⟩ := n_; (try clear hb); (try clear ho0); have hcz17_0 : w16.cell? ⟨gb341, 0, none⟩ = some (.int .i64 0) := (blk_cell BK341.out 0).trans rfl; have hcz17_1 : w16.cell? ⟨gb341, 1, none⟩ = some (.slice none 0 0) := (blk_cell BK341.out 1).trans rfl; have hfz17_0 := blk_frozen BK341.out 0; have hfz17_1 := blk_frozen BK341.out 1))
         refine bodyPost_ret (results_cell_row rfl _ _ gb341 58 #[.int .i64 4, .slice none 0 0] (0, 0) _ rfl (by (with_reducible repeat (first | refine blk_drewN ?_ _ | refine blk_drew ?_ | refine blk_alloc ?_ _)); refine blk_put (cs := #[.int .i64 4, .slice none 0 0]) ?_ 1 _ rfl; (with_reducible repeat (first | refine blk_drewN ?_ _ | refine blk_drew ?_ | refine blk_alloc ?_ _)); refine blk_put (cs := #[.int .i64 0, .slice none 0 0]) ?_ 0 _ rfl; (with_reducible repeat (first | refine blk_drewN ?_ _ | refine blk_drew ?_ | refine blk_alloc ?_ _)); exact BK341.out) Tryd.underlying58 rfl (by kernel_rfl)) rfl ?_
         exact ⟨_, pE, by first | exact Kd.R_nil _ _ _ _ _ | exact Kd.N_nil _ _ _ _ _ | exact Kd.V_nil _ _ _ _ _ | exact Kd.Q_nil _ _ _ _ _ | exact Kd.S_nil _ _ _ _ _, pB⟩
     · rw [if_neg c6] at H
       have c6b0 : (((rd_T81 l0 0).f0) == 6) = false := beq_eq_false_iff_ne.mpr c6
       have c6b1 : (((rd_T81 l0 0).f0) != 6) = true := bne_iff_ne.mpr c6
       simp only [Option.some.injEq, Prod.mk.injEq] at H
       obtain ⟨rfl, rfl⟩ := H
       go_enter Tryd.func29, Tryd.ntmps29
       go_wp2_with (first | ((with_reducible refine gate_dst (N := 4) rfl ?_); refine box_event ?hg (N := 4) ?hd (cs := #[.int .i64 0, .slice none 0 0]) (t := 58) ?hr ?_; (case hd => rfl); (case hg => rfl); (case hr => first | (go_simp; done) | (go_simp; rfl)); intro gb341 hg w18 hbox hb; have n_ := t4 (bz_ pB hb) (hbox) ((by rw [hg]; exact (bs_ pB) : w.heap.size ≤ gb341)) ((by rw [hg]; exact (bs_ pB) : w.heap.size ≤ gb341)); clear HB; obtain ⟨HB, BK341, GW341, GE341⟩ := n_; clear hb hbox hg) | ((with_reducible refine gC (f := 50) rfl ?_); refine goesL_ (some 9) rfl rfl Tryd.func50 (by kernel_rfl) rfl #[.slice A0 l0.length c0] rfl pA ?_; (with_reducible refine (spec_l8Fault.calls k _ _ l0 t342 _ ?side1 ?side2 A3.out).mono ?_); (case side1 => exact pC (Kd.C_below HR0.out HB.out)); (case side2 => exact HC0.out); rintro e w19 ⟨rfl, hb⟩; refine ⟨_, rfl, ?_⟩; have n_ := t2 (blk_below (g := gb341) (o := .cells #[.int .i64 0, .slice none 0 0] 58 (0, 0)) (pK BK341) hb) (bz_ pB hb); clear BK341 HB; obtain ⟨BK341, HB⟩ := n_; (try clear hb); have p343 : 0 ≤ (0 : Int) := (by omega); have q343 : 0 < (l0.length : Int) := pD; obtain ⟨ad343, e343, hx343_0, hx343_1, hx343_2⟩ := at_T81 HR0.out 0 p343 q343; cases e343; have qi343 : (0 < l0.length) = True := eq_true (by omega); (try rw [show ((0 : Int)).toNat = 0 from rfl] at hx343_0); (try rw [show 0 * 3 = 0 from rfl] at hx343_0); (try rw [Addr.add_zero'] at hx343_0); (try rw [show ((0 : Int)).toNat = 0 from rfl] at hx343_1); (try rw [show 0 * 3 = 0 from rfl] at hx343_1); (try rw [Addr.add_zero'] at hx343_1); (try rw [show ((0 : Int)).toNat = 0 from rfl] at hx343_2); (try rw [show 0 * 3 = 0 from rfl] at hx343_2); (try rw [Addr.add_zero'] at hx343_2); replace hx343_0 := cb HB hx343_0; replace hx343_1 := cb HB hx343_1; replace hx343_2 := cb HB hx343_2; replace p343 := eq_true p343; replace q343 := eq_true q343; have hcz20_0 : w19.cell? ⟨gb341, 0, none⟩ = some (.int .i64 0) := (blk_cell BK341.out 0).trans rfl; have hcz20_1 : w19.cell? ⟨gb341, 1, none⟩ = some (.slice none 0 0) := (blk_cell BK341.out 1).trans rfl; have hfz20_0 := blk_frozen BK341.out 0; have hfz20_1 := blk_frozen BK341.out 1))
       refine bodyPost_ret (results_cell_row rfl _ _ gb341 58 #[.int .i64 1, .slice none 0 0] (0, 0) _ rfl (by (with_reducible repeat (first | refine blk_drewN ?_ _ | refine blk_drew ?_ | refine blk_alloc ?_ _)); refine blk_put (cs := #[.int .i64 1, .slice none 0 0]) ?_ 1 _ rfl; (with_reducible repeat (first | refine blk_drewN ?_ _ | refine blk_drew ?_ | refine blk_alloc ?_ _)); refine blk_put (cs := #[.int .i64 0, .slice none 0 0]) ?_ 0 _ rfl; (with_reducible repeat (first | refine blk_drewN ?_ _ | refine blk_drew ?_ | refine blk_alloc ?_ _)); exact BK341.out) Tryd.underlying58 rfl (by kernel_rfl)) rfl ?_
       exact ⟨_, pE, by first | exact Kd.R_nil _ _ _ _ _ | exact Kd.N_nil _ _ _ _ _ | exact Kd.V_nil _ _ _ _ _ | exact Kd.Q_nil _ _ _ _ _ | exact Kd.S_nil _ _ _ _ _, pB⟩
   · rw [if_neg c5] at H
     exact absurd H (by simp)
 · rw [if_neg c4] at H
   have c4b0 : (t342 == 0) = false := beq_eq_false_iff_ne.mpr c4
   have c4b1 : (t342 != 0) = true := bne_iff_ne.mpr c4
   simp only [Option.some.injEq, Prod.mk.injEq] at H
   obtain ⟨rfl, rfl⟩ := H
   go_enter Tryd.func29, Tryd.ntmps29
   go_wp2_with (first | ((with_reducible refine gate_dst (N := 4) rfl ?_); refine box_event ?hg (N := 4) ?hd (cs := #[.int .i64 0, .slice none 0 0]) (t := 58) ?hr ?_; (case hd => rfl); (case hg => rfl); (case hr => first | (go_simp; done) | (go_simp; rfl)); intro gb341 hg w21 hbox hb; have n_ := t4 (bz_ pB hb) (hbox) ((by rw [hg]; exact (bs_ pB) : w.heap.size ≤ gb341)) ((by rw [hg]; exact (bs_ pB) : w.heap.size ≤ gb341)); clear HB; obtain ⟨HB, BK341, GW341, GE341⟩ := n_; clear hb hbox hg) | ((with_reducible refine gC (f := 50) rfl ?_); refine goesL_ (some 9) rfl rfl Tryd.func50 (by kernel_rfl) rfl #[.slice A0 l0.length c0] rfl pA ?_; (with_reducible refine (spec_l8Fault.calls k _ _ l0 t342 _ ?side1 ?side2 A3.out).mono ?_); (case side1 => exact pC (Kd.C_below HR0.out HB.out)); (case side2 => exact HC0.out); rintro e w22 ⟨rfl, hb⟩; refine ⟨_, rfl, ?_⟩; have n_ := t2 (blk_below (g := gb341) (o := .cells #[.int .i64 0, .slice none 0 0] 58 (0, 0)) (pK BK341) hb) (bz_ pB hb); clear BK341 HB; obtain ⟨BK341, HB⟩ := n_; (try clear hb); have hcz23_0 : w22.cell? ⟨gb341, 0, none⟩ = some (.int .i64 0) := (blk_cell BK341.out 0).trans rfl; have hcz23_1 : w22.cell? ⟨gb341, 1, none⟩ = some (.slice none 0 0) := (blk_cell BK341.out 1).trans rfl; have hfz23_0 := blk_frozen BK341.out 0; have hfz23_1 := blk_frozen BK341.out 1))
   refine bodyPost_ret (results_cell_row rfl _ _ gb341 58 #[.int .i64 t342, .slice none 0 0] (0, 0) _ rfl (by (with_reducible repeat (first | refine blk_drewN ?_ _ | refine blk_drew ?_ | refine blk_alloc ?_ _)); refine blk_put (cs := #[.int .i64 t342, .slice none 0 0]) ?_ 1 _ rfl; (with_reducible repeat (first | refine blk_drewN ?_ _ | refine blk_drew ?_ | refine blk_alloc ?_ _)); refine blk_put (cs := #[.int .i64 0, .slice none 0 0]) ?_ 0 _ rfl; (with_reducible repeat (first | refine blk_drewN ?_ _ | refine blk_drew ?_ | refine blk_alloc ?_ _)); exact BK341.out) Tryd.underlying58 rfl (by kernel_rfl)) rfl ?_
   exact ⟨_, pE, by first | exact Kd.R_nil _ _ _ _ _ | exact Kd.N_nil _ _ _ _ _ | exact Kd.V_nil _ _ _ _ _ | exact Kd.Q_nil _ _ _ _ _ | exact Kd.S_nil _ _ _ _ _, pB⟩
def impl_Val_62.l0 : Nat → List (S81) → List (S81) → Int → Int → Option (Bool)
 | 0, _, _, _, _ => none
 | k + 1, x0, x1, x12, x13 => if x13 < x12 then (if 0 ≤ x13 then (if x13 < (x0.length : Int) then (if x13 < (x1.length : Int) then (if (!(((rd_T81 x0 x13).f0) == ((rd_T81 x1 x13).f0)) || (!(((rd_T81 x0 x13).f1) == ((rd_T81 x1 x13).f1)) || (!((((rd_T81 x0 x13).f2).toList) == (((rd_T81 x1 x13).f2).toList))))) = true then (some false) else (impl_Val_62.l0 k x0 x1 x12 (wrap64 (x13 + 1)))) else (none)) else (none)) else (none)) else (some true)
def impl_Val_62.f (k : Nat) (l0 : List (S81)) (l1 : List (S81)) : Option (Bool) := if (l0.length : Int) = (l1.length : Int) then (impl_Val_62.l0 k l0 l1 (l0.length : Int) 0) else (some false)
theorem impl_Val_62.mono_l : ∀ k, (∀ y0 y1 y2 y3, LeO (impl_Val_62.l0 k y0 y1 y2 y3) (impl_Val_62.l0 (k + 1) y0 y1 y2 y3))
 | 0 => fun _ _ _ _ r h => by simp [impl_Val_62.l0] at h
 | k + 1 => by
  have ih0 := impl_Val_62.mono_l k
  · intro y0 y1 y2 y3
    unfold impl_Val_62.l0
    repeat' with_reducible first | exact ih0 _ _ _ _ | exact LeO.refl _ | exact LeO.none _ | refine LeO.ite ?_ ?_ | refine LeO.bind ?_ (fun _ => ?_)
theorem impl_Val_62.mono : ∀ a0 a1 k, LeO (impl_Val_62.f k a0 a1) (impl_Val_62.f (k + 1) a0 a1) := by
 intro a0 a1 k
 have ih0 := impl_Val_62.mono_l k
 unfold impl_Val_62.f
 repeat' with_reducible first | exact ih0 _ _ _ _ | exact LeO.refl _ | exact LeO.none _ | refine LeO.ite ?_ ?_ | refine LeO.bind ?_ (fun _ => ?_)
theorem impl_Val_62.calls (k : Nat) (A0 : Option Addr) (c0 : Nat) (l0 : List (S81)) (A1 : Option Addr) (c1 : Nat) (l1 : List (S81)) (r : Bool) (w : World) (hr0 : Kd.C k81 w A0 l0.length l0) (hc0 : l0.length ≤ c0) (hr1 : Kd.C k81 w A1 l1.length l1) (hc1 : l1.length ≤ c1) (h : impl_Val_62.f k l0 l1 = some r) :
 Calls Tryd.prog 62 #[.slice A0 l0.length c0, .slice A1 l1.length c1] w fun e w' => e = .returned (.bool r) ∧ Drawn0 w w' := by
 have hu81 := Tryd.underlying81
 have HR0 := am hr0; have HC0 := am hc0; clear hr0 hc0; have HR1 := am hr1; have HC1 := am hc1; clear hr1 hc1
 have H : (if (l0.length : Int) = (l1.length : Int) then (impl_Val_62.l0 k l0 l1 (l0.length : Int) 0) else (some false)) = some r := h
 clear h
 by_cases c3 : (l0.length : Int) = (l1.length : Int)
 · rw [if_pos c3] at H
   have c3b0 : ((l0.length : Int) == (l1.length : Int)) = true := beq_iff_eq.mpr c3
   have c3b1 : ((l0.length : Int) != (l1.length : Int)) = false := bne_eq_false_iff_eq.mpr c3
   have c3b2 : (l0.length == l1.length) = true := by first | simpa using c3 | (simp at c3 ⊢; omega)
   clear c3
   have H' := am H
   clear H
   go_enter Tryd.func62, Tryd.ntmps62
   go_wp2
   repeat (go_quiet (fail); try go_wp2)
   go_loopg [13] k (fun kq v13 w' => ∃ (x13_1 : Int), v13 = .int .i64 x13_1 ∧ Aside0 (impl_Val_62.l0 kq l0 l1 (l0.length : Int) x13_1 = some r) ∧ Aside0 (kq ≤ k) ∧ Drawn0 w w')
   case atStart => exact ⟨(0), pF, H', ⟨Nat.le_refl _⟩, pW⟩
   case round =>
    clear H'
    (try clear c1); (try clear c3); (try clear c3b0); (try clear c3b1); (try clear c3b2)
    obtain ⟨x13_1, rfl, HA, HK1, ⟨m1, rfl⟩⟩ := hrel
    cases gk with
    | zero => exact absurd HA.out (by simp [impl_Val_62.l0])
    | succ k1 =>
     have H := HA.out
     clear HA
     simp only [impl_Val_62.l0] at H
     by_cases c4 : x13_1 < (l0.length : Int)
     · rw [if_pos c4] at H
       have c4b0 : decide (x13_1 < (l0.length : Int)) = true := dt c4
       clear c4
       by_cases c5 : 0 ≤ x13_1
       · rw [if_pos c5] at H
         have c5b0 : decide (0 ≤ x13_1) = true := dt c5
         clear c5
         by_cases c6 : x13_1 < (l0.length : Int)
         · rw [if_pos c6] at H
           have c6b0 : decide (x13_1 < (l0.length : Int)) = true := dt c6
           clear c6
           by_cases c7 : x13_1 < (l1.length : Int)
           · rw [if_pos c7] at H
             have c7b0 : decide (x13_1 < (l1.length : Int)) = true := dt c7
             clear c7
             by_cases c8 : (!(((rd_T81 l0 x13_1).f0) == ((rd_T81 l1 x13_1).f0)) || (!(((rd_T81 l0 x13_1).f1) == ((rd_T81 l1 x13_1).f1)) || (!((((rd_T81 l0 x13_1).f2).toList) == (((rd_T81 l1 x13_1).f2).toList))))) = true
             · rw [if_pos c8] at H
               have c8b0 : (!(((rd_T81 l0 x13_1).f0) == ((rd_T81 l1 x13_1).f0)) || (!(((rd_T81 l0 x13_1).f1) == ((rd_T81 l1 x13_1).f1)) || (!((((rd_T81 l0 x13_1).f2).toList) == (((rd_T81 l1 x13_1).f2).toList))))) = true := c8
               clear c8
               obtain rfl := sj H
               have p348 : 0 ≤ (x13_1 : Int) := pD
               have q348 : x13_1 < (l0.length : Int) := pD
               obtain ⟨ad348, e348, hx348_0, hx348_1, hx348_2⟩ := at_T81 HR0.out x13_1 p348 q348
               cases e348; replace p348 := eq_true p348; replace q348 := eq_true q348
               have p349 : 0 ≤ (x13_1 : Int) := pD
               have q349 : x13_1 < (l1.length : Int) := pD
               obtain ⟨ad349, e349, hx349_0, hx349_1, hx349_2⟩ := at_T81 HR1.out x13_1 p349 q349
               cases e349; replace p349 := eq_true p349; replace q349 := eq_true q349
               go_wp2
               repeat (go_quiet (fail); try go_wp2)
               go_ret
               exact ⟨by first | rfl | (simp; done) | (simp [*]; done), pW⟩
             · rw [if_neg c8] at H
               have c8b0 : (!(((rd_T81 l0 x13_1).f0) == ((rd_T81 l1 x13_1).f0)) || (!(((rd_T81 l0 x13_1).f1) == ((rd_T81 l1 x13_1).f1)) || (!((((rd_T81 l0 x13_1).f2).toList) == (((rd_T81 l1 x13_1).f2).toList))))) = false := by simpa using c8
               clear c8
               have H' := am H
               clear H
               have p348 : 0 ≤ (x13_1 : Int) := pD
               have q348 : x13_1 < (l0.length : Int) := pD
               obtain ⟨ad348, e348, hx348_0, hx348_1, hx348_2⟩ := at_T81 HR0.out x13_1 p348 q348
               cases e348; replace p348 := eq_true p348; replace q348 := eq_true q348
               have p349 : 0 ≤ (x13_1 : Int) := pD
               have q349 : x13_1 < (l1.length : Int) := pD
               obtain ⟨ad349, e349, hx349_0, hx349_1, hx349_2⟩ := at_T81 HR1.out x13_1 p349 q349
               cases e349; replace p349 := eq_true p349; replace q349 := eq_true q349
               go_wp2
               repeat (go_quiet (fail); try go_wp2)
               go_roundg k1
               case measure => have := HK1.out; omega
               case rel => exact ⟨(wrap64 (x13_1 + 1)), pF, H', ⟨by have := HK1.out; omega⟩, pW⟩
           · rw [if_neg c7] at H
             exact absurd H (by simp)
         · rw [if_neg c6] at H
           exact absurd H (by simp)
       · rw [if_neg c5] at H
         exact absurd H (by simp)
     · rw [if_neg c4] at H
       have c4b0 : decide (x13_1 < (l0.length : Int)) = false := decide_eq_false c4
       clear c4
       obtain rfl := sj H
       go_wp2
       repeat (go_quiet (fail); try go_wp2)
       go_ret
       exact ⟨by first | rfl | (simp; done) | (simp [*]; done), pW⟩
 · rw [if_neg c3] at H
   have c3b0 : ((l0.length : Int) == (l1.length : Int)) = false := beq_eq_false_iff_ne.mpr c3
   have c3b1 : ((l0.length : Int) != (l1.length : Int)) = true := bne_iff_ne.mpr c3
   have c3b2 : (l0.length == l1.length) = false := by first | simpa using c3 | (simp at c3 ⊢; omega)
   obtain rfl := sj H
   go_enter Tryd.func62, Tryd.ntmps62
   go_wp2
   repeat (go_quiet (fail); try go_wp2)
   go_ret
   exact ⟨by first | rfl | (simp; done) | (simp [*]; done), pW⟩
end Go.Proofs.YthjlbpgiaehjnaaDoor.QFnCuts
