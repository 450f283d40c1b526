-- written by this session's program (wip/tools/myprint.py)
import Derived.Test.YthjlbpgiaehjnaaQFnExactBlockFaultx0
import Derived.Test.YthjlbpgiaehjnaaQFnExactBlockFaultx18
-- squeezed
namespace Go.Proofs.Ythjlbpgiaehjnaa.QFnExactBlockFault
open Go.RowKit Go.Proofs.YthjlbpgiaehjnaaW.PrintWords Go.Proofs.YthjlbpgiaehjnaaW.PrintLast Go.Proofs.YthjlbpgiaehjnaaW.PrintMore
attribute [local go_sem] max2_int min2_int max_two min_two max_three min_three max_four min_four   -- for this text's walks alone
set_option linter.unusedVariables false
set_option linter.unusedSimpArgs false
set_option maxHeartbeats 8000000
set_option maxRecDepth 100000
def laws_eqOutS.l0 : Nat → List (S86) → List (S86) → Int → Option (Bool)
 | 0, _, _, _ => none
 | k + 1, x0, x1, x5 => if x5 < (x0.length : Int) then (if 0 ≤ x5 then (if x5 < (x1.length : Int) then ((laws_eqOut.f k ((rd_T86 x0 x5).f0) ((rd_T86 x0 x5).f1) ((rd_T86 x1 x5).f0) ((rd_T86 x1 x5).f1)).bind fun t590 => (if t590 = true then (laws_eqOutS.l0 k x0 x1 (wrap64 (x5 + 1))) else (some false))) else (none)) else (none)) else (some true)
def laws_eqOutS.f (k : Nat) (l0 : List (S86)) (l1 : List (S86)) : Option (Bool) := if (l0.length : Int) = (l1.length : Int) then (laws_eqOutS.l0 k l0 l1 0) else (some false)
theorem laws_eqOutS.mono_l : ∀ k, (∀ y0 y1 y2, LeO (laws_eqOutS.l0 k y0 y1 y2) (laws_eqOutS.l0 (k + 1) y0 y1 y2))
 | 0 => fun _ _ _ r h => by simp [laws_eqOutS.l0] at h
 | k + 1 => by
  have ih0 := laws_eqOutS.mono_l k
  · intro y0 y1 y2
    unfold laws_eqOutS.l0
    repeat' with_reducible first | exact ih0 _ _ _ | exact laws_eqOut.mono _ _ _ _ _ | exact LeO.refl _ | exact LeO.none _ | refine LeO.ite ?_ ?_ | refine LeO.bind ?_ (fun _ => ?_)
theorem laws_eqOutS.mono : ∀ a0 a1 k, LeO (laws_eqOutS.f k a0 a1) (laws_eqOutS.f (k + 1) a0 a1) := by
 intro a0 a1 k
 have ih0 := laws_eqOutS.mono_l k
 unfold laws_eqOutS.f
 repeat' with_reducible first | exact ih0 _ _ _ | exact laws_eqOut.mono _ _ _ _ _ | exact LeO.refl _ | exact LeO.none _ | refine LeO.ite ?_ ?_ | refine LeO.bind ?_ (fun _ => ?_)
def laws_eqOutS.T6 : Bool × List (List Nat × List Nat) := (true, [([], []), ([], []), ([0, 1], [0, 1]), ([2], [2]), ([], []), ([], []), ([4, 5], [4, 5]), ([6], [6]), ([3, 7], [3, 7]), ([8], [8])])
def laws_eqOutS.B6 : List Nat := [0, 0, 3, 7, 0, 0, 48, 112, 255, 511]
theorem laws_eqOutS.tab6 : rtab .any (opsOf Try.f67 6) = laws_eqOutS.T6 := by kernel_rfl
theorem laws_eqOutS.bits6 : waitsOk laws_eqOutS.T6.2 laws_eqOutS.B6 = true := by kernel_rfl
theorem laws_eqOutS.calls (k : Nat) (A0 : Option Addr) (c0 : Nat) (l0 : List (S86)) (A1 : Option Addr) (c1 : Nat) (l1 : List (S86)) (r : Bool) (w : World) (hr0 : Kd.C k86 w A0 l0.length l0) (hc0 : l0.length ≤ c0) (hr1 : Kd.C k86 w A1 l1.length l1) (hc1 : l1.length ≤ c1) (h : laws_eqOutS.f k l0 l1 = some r) :
 Calls Try.prog 67 #[.slice A0 l0.length c0, .slice A1 l1.length c1] w fun e w' => e = .returned (.bool r) ∧ Below w.heap.size w w' := by
 have hu86 := Try.underlying86
 have HR0 := Aside0.mk hr0; have HC0 := Aside0.mk hc0; clear hr0 hc0; have HR1 := Aside0.mk hr1; have HC1 := Aside0.mk hc1; clear hr1 hc1
 have HB := Aside0.mk (Below.refl w.heap.size w)
 have H : (if (l0.length : Int) = (l1.length : Int) then (laws_eqOutS.l0 k l0 l1 0) else (some false)) = some r := h
 clear h
 by_cases c3 : (l0.length : Int) = (l1.length : Int)
 · rw [if_pos c3] at H
   have c3b0 : ((l0.length : Int) == (l1.length : Int)) = true := beq_iff_eq.mpr c3
   have c3b1 : ((l0.length : Int) != (l1.length : Int)) = false := bne_eq_false_iff_eq.mpr c3
   have c3b2 : (l0.length == l1.length) = true := by first | simpa using c3 | (simp at c3 ⊢; omega)
   clear c3
   have H' := Aside0.mk H
   clear H
   go_enter Try.func67, Try.ntmps67
   go_wp2
   go_loopg [5] k (fun kq v5 w' => ∃ (x5_1 : Int), v5 = .int .i64 x5_1 ∧ Aside0 (laws_eqOutS.l0 kq l0 l1 x5_1 = some r) ∧ Aside0 (kq ≤ k) ∧ Aside0 (Below w.heap.size w w'))
   case atStart => exact ⟨(0), pF, H', ⟨Nat.le_refl _⟩, ⟨pB⟩⟩
   case round =>
    clear H'
    (try clear c1); (try clear p2); (try clear c3); (try clear c3b0); (try clear c3b1); (try clear c3b2)
    obtain ⟨x5_1, rfl, HA, HK1, HB⟩ := hrel
    cases gk with
    | zero => exact absurd HA.out (by simp [laws_eqOutS.l0])
    | succ k1 =>
     have H := HA.out
     clear HA
     simp only [laws_eqOutS.l0] at H
     by_cases c4 : x5_1 < (l0.length : Int)
     · rw [if_pos c4] at H
       have c4b0 : decide (x5_1 < (l0.length : Int)) = true := decide_eq_true c4
       clear c4
       by_cases c5 : 0 ≤ x5_1
       · rw [if_pos c5] at H
         have c5b0 : decide (0 ≤ x5_1) = true := decide_eq_true c5
         clear c5
         by_cases c6 : x5_1 < (l1.length : Int)
         · rw [if_pos c6] at H
           have c6b0 : decide (x5_1 < (l1.length : Int)) = true := decide_eq_true c6
           clear c6
           obtain ⟨t590, A70, H⟩ := bO H
           replace H : (if t590 = true then (laws_eqOutS.l0 k1 l0 l1 (wrap64 (x5_1 + 1))) else (some false)) = some r := H
           have A7 := Aside0.mk A70; clear A70
           by_cases c8 : t590 = true
           · subst c8
             have H1 : (laws_eqOutS.l0 k1 l0 l1 (wrap64 (x5_1 + 1))) = some r := by rw [if_pos rfl] at H; exact H
             clear H; have H := H1; clear H1
             have H' := Aside0.mk H
             clear H
             try go_wp2
             have n_ := am (below_drew1 HB.out)
             clear HB; have HB := n_; clear n_
             have p588 : 0 ≤ (x5_1 : Int) := pD
             have q588 : x5_1 < (l0.length : Int) := pD
             obtain ⟨ad588, A588_1, c588_1, e588, hx588_0, hx588_1, hl588_1, hi588_1⟩ := at_T86 HR0.out x5_1 p588 q588
             have hw588_1 := hx588_1
             have hw588_0 := hx588_0
             cases e588; replace hx588_0 := cb HB hx588_0; replace hx588_1 := cb HB hx588_1; have HR588_1 := Aside0.mk hi588_1; have HC588_1 := Aside0.mk hl588_1; clear hi588_1 hl588_1; replace p588 := eq_true p588; replace q588 := eq_true q588
             have p589 : 0 ≤ (x5_1 : Int) := pD
             have q589 : x5_1 < (l1.length : Int) := pD
             obtain ⟨ad589, A589_1, c589_1, e589, hx589_0, hx589_1, hl589_1, hi589_1⟩ := at_T86 HR1.out x5_1 p589 q589
             have hw589_1 := hx589_1
             have hw589_0 := hx589_0
             cases e589; replace hx589_0 := cb HB hx589_0; replace hx589_1 := cb HB hx589_1; have HR589_1 := Aside0.mk hi589_1; have HC589_1 := Aside0.mk hl589_1; clear hi589_1 hl589_1; replace p589 := eq_true p589; replace q589 := eq_true q589
             refine start_ (n := 10) (S := fun w' => w'.cell? (ad588.add ((x5_1).toNat * 2)) = some (.int .i64 ((rd_T86 l0 x5_1).f0)) ∧ w'.cell? ⟨(ad588.add ((x5_1).toNat * 2)).block, (ad588.add ((x5_1).toNat * 2)).off + 1, none⟩ = some (.slice A588_1 ((rd_T86 l0 x5_1).f1).length c588_1) ∧ w'.cell? (ad589.add ((x5_1).toNat * 2)) = some (.int .i64 ((rd_T86 l1 x5_1).f0)) ∧ w'.cell? ⟨(ad589.add ((x5_1).toNat * 2)).block, (ad589.add ((x5_1).toNat * 2)).off + 1, none⟩ = some (.slice A589_1 ((rd_T86 l1 x5_1).f1).length c589_1)) (ds := []) #[false, false, false, false, false, false, false, false, false, false] (by kernel_rfl) rfl rfl ⟨(cb HB hw588_0), (cb HB hw588_1), (cb HB hw589_0), (cb HB hw589_1)⟩ (fun hHeld => ?_); refine with_tabW laws_eqOutS.tab6 laws_eqOutS.bits6 (fun HT_ HW_ => ?_)
             generalize wr.drew = w9 at HB HR588_1 HR589_1 hx588_0 hx588_1 hx589_0 hx589_1 hHeld ⊢
             refine rP 0 (some 17) #[true, false, false, false, false, false, false, false, false, false] (any_of HT_.out (by kernel_rfl)) ?_
             refine rP 1 (some 18) #[true, true, false, false, false, false, false, false, false, false] (any_of HT_.out (by kernel_rfl)) ?_
             refine rP 2 (some 19) #[true, true, true, false, false, false, false, false, false, false] (any_of HT_.out (by kernel_rfl)) ?_
             refine rP 4 (some 21) #[true, true, true, false, true, false, false, false, false, false] (any_of HT_.out (by kernel_rfl)) ?_
             refine rP 5 (some 22) #[true, true, true, false, true, true, false, false, false, false] (any_of HT_.out (by kernel_rfl)) ?_
             refine rP 6 (some 23) #[true, true, true, false, true, true, true, false, false, false] (any_of HT_.out (by kernel_rfl)) ?_
             refine rT 3 (some 20) #[true, true, true, true, true, true, true, false, false, false] (take_ofW HT_.out HW_.out (by kernel_rfl)) hHeld ?_
             refine rT 7 (some 24) #[true, true, true, true, true, true, true, true, false, false] (take_ofW HT_.out HW_.out (by kernel_rfl)) hHeld ?_
             refine one_ (i := 8) (N := some 25) #[true, true, true, true, true, true, true, true, true, false] rfl rfl (one_of HT_.out (by kernel_rfl)) (by decide) (fun K hK => ?_)
             refine goes_ Try.func117 (by kernel_rfl) rfl #[.agg #[.int .i64 ((rd_T86 l0 x5_1).f0), .slice A588_1 ((rd_T86 l0 x5_1).f1).length c588_1], .agg #[.int .i64 ((rd_T86 l1 x5_1).f0), .slice A589_1 ((rd_T86 l1 x5_1).f1).length c589_1]] (by rfl) rfl rfl pA ?_
             with_reducible refine (laws_eqOut.calls k1 ((rd_T86 l0 x5_1).f0) _ _ ((rd_T86 l0 x5_1).f1) ((rd_T86 l1 x5_1).f0) _ _ ((rd_T86 l1 x5_1).f1) true _ ?side1 ?side2 ?side3 ?side4 A7.out).mono ?_
             (case side1 => exact pC (Kd.C_below HR588_1.out HB.out))
             (case side2 => exact HC588_1.out)
             (case side3 => exact pC (Kd.C_below HR589_1.out HB.out))
             (case side4 => exact HC589_1.out)
             rintro e w10 ⟨rfl, hb⟩
             refine ⟨_, rfl, ?_⟩
             have n_ := am (below_step pB hb)
             clear HB; have HB := n_; clear n_; (try clear hb); (try clear hb2); (try clear hk); (try clear hi)
             refine hK.out _ _ ⟨(cb HB hw588_0), (cb HB hw588_1), (cb HB hw589_0), (cb HB hw589_1)⟩ (fun hHeld => ?_)
             clear hK K
             refine rN ?_
             refine rP 9 (some 26) #[true, true, true, true, true, true, true, true, true, true] (any_of HT_.out (by kernel_rfl)) ?_
             refine done_ (done_of HT_.out (by kernel_rfl)) ?_
             try go_wp2
             go_roundg k1
             case measure => have := HK1.out; omega
             case rel => exact ⟨(wrap64 (x5_1 + 1)), pF, H', ⟨by have := HK1.out; omega⟩, ⟨pB⟩⟩
           · replace c8 := Bool.eq_false_iff.mpr c8
             subst c8
             have H1 : (some false) = some r := by rw [if_neg (show ¬ (false = true) by decide)] at H; exact H
             clear H; have H := H1; clear H1
             obtain rfl := Option.some.inj H
             try go_wp2
             have n_ := am (below_drew1 HB.out)
             clear HB; have HB := n_; clear n_
             have p588 : 0 ≤ (x5_1 : Int) := pD
             have q588 : x5_1 < (l0.length : Int) := pD
             obtain ⟨ad588, A588_1, c588_1, e588, hx588_0, hx588_1, hl588_1, hi588_1⟩ := at_T86 HR0.out x5_1 p588 q588
             have hw588_1 := hx588_1
             have hw588_0 := hx588_0
             cases e588; replace hx588_0 := cb HB hx588_0; replace hx588_1 := cb HB hx588_1; have HR588_1 := Aside0.mk hi588_1; have HC588_1 := Aside0.mk hl588_1; clear hi588_1 hl588_1; replace p588 := eq_true p588; replace q588 := eq_true q588
             have p589 : 0 ≤ (x5_1 : Int) := pD
             have q589 : x5_1 < (l1.length : Int) := pD
             obtain ⟨ad589, A589_1, c589_1, e589, hx589_0, hx589_1, hl589_1, hi589_1⟩ := at_T86 HR1.out x5_1 p589 q589
             have hw589_1 := hx589_1
             have hw589_0 := hx589_0
             cases e589; replace hx589_0 := cb HB hx589_0; replace hx589_1 := cb HB hx589_1; have HR589_1 := Aside0.mk hi589_1; have HC589_1 := Aside0.mk hl589_1; clear hi589_1 hl589_1; replace p589 := eq_true p589; replace q589 := eq_true q589
             refine start_ (n := 10) (S := fun w' => w'.cell? (ad588.add ((x5_1).toNat * 2)) = some (.int .i64 ((rd_T86 l0 x5_1).f0)) ∧ w'.cell? ⟨(ad588.add ((x5_1).toNat * 2)).block, (ad588.add ((x5_1).toNat * 2)).off + 1, none⟩ = some (.slice A588_1 ((rd_T86 l0 x5_1).f1).length c588_1) ∧ w'.cell? (ad589.add ((x5_1).toNat * 2)) = some (.int .i64 ((rd_T86 l1 x5_1).f0)) ∧ w'.cell? ⟨(ad589.add ((x5_1).toNat * 2)).block, (ad589.add ((x5_1).toNat * 2)).off + 1, none⟩ = some (.slice A589_1 ((rd_T86 l1 x5_1).f1).length c589_1)) (ds := []) #[false, false, false, false, false, false, false, false, false, false] (by kernel_rfl) rfl rfl ⟨(cb HB hw588_0), (cb HB hw588_1), (cb HB hw589_0), (cb HB hw589_1)⟩ (fun hHeld => ?_); refine with_tabW laws_eqOutS.tab6 laws_eqOutS.bits6 (fun HT_ HW_ => ?_)
             generalize wr.drew = w11 at HB HR588_1 HR589_1 hx588_0 hx588_1 hx589_0 hx589_1 hHeld ⊢
             refine rP 0 (some 17) #[true, false, false, false, false, false, false, false, false, false] (any_of HT_.out (by kernel_rfl)) ?_
             refine rP 1 (some 18) #[true, true, false, false, false, false, false, false, false, false] (any_of HT_.out (by kernel_rfl)) ?_
             refine rP 2 (some 19) #[true, true, true, false, false, false, false, false, false, false] (any_of HT_.out (by kernel_rfl)) ?_
             refine rP 4 (some 21) #[true, true, true, false, true, false, false, false, false, false] (any_of HT_.out (by kernel_rfl)) ?_
             refine rP 5 (some 22) #[true, true, true, false, true, true, false, false, false, false] (any_of HT_.out (by kernel_rfl)) ?_
             refine rP 6 (some 23) #[true, true, true, false, true, true, true, false, false, false] (any_of HT_.out (by kernel_rfl)) ?_
             refine rT 3 (some 20) #[true, true, true, true, true, true, true, false, false, false] (take_ofW HT_.out HW_.out (by kernel_rfl)) hHeld ?_
             refine rT 7 (some 24) #[true, true, true, true, true, true, true, true, false, false] (take_ofW HT_.out HW_.out (by kernel_rfl)) hHeld ?_
             refine one_ (i := 8) (N := some 25) #[true, true, true, true, true, true, true, true, true, false] rfl rfl (one_of HT_.out (by kernel_rfl)) (by decide) (fun K hK => ?_)
             refine goes_ Try.func117 (by kernel_rfl) rfl #[.agg #[.int .i64 ((rd_T86 l0 x5_1).f0), .slice A588_1 ((rd_T86 l0 x5_1).f1).length c588_1], .agg #[.int .i64 ((rd_T86 l1 x5_1).f0), .slice A589_1 ((rd_T86 l1 x5_1).f1).length c589_1]] (by rfl) rfl rfl pA ?_
             with_reducible refine (laws_eqOut.calls k1 ((rd_T86 l0 x5_1).f0) _ _ ((rd_T86 l0 x5_1).f1) ((rd_T86 l1 x5_1).f0) _ _ ((rd_T86 l1 x5_1).f1) false _ ?side1 ?side2 ?side3 ?side4 A7.out).mono ?_
             (case side1 => exact pC (Kd.C_below HR588_1.out HB.out))
             (case side2 => exact HC588_1.out)
             (case side3 => exact pC (Kd.C_below HR589_1.out HB.out))
             (case side4 => exact HC589_1.out)
             rintro e w12 ⟨rfl, hb⟩
             refine ⟨_, rfl, ?_⟩
             have n_ := am (below_step pB hb)
             clear HB; have HB := n_; clear n_; (try clear hb); (try clear hb2); (try clear hk); (try clear hi)
             refine hK.out _ _ ⟨(cb HB hw588_0), (cb HB hw588_1), (cb HB hw589_0), (cb HB hw589_1)⟩ (fun hHeld => ?_)
             clear hK K
             refine rN ?_
             refine rP 9 (some 26) #[true, true, true, true, true, true, true, true, true, true] (any_of HT_.out (by kernel_rfl)) ?_
             refine done_ (done_of HT_.out (by kernel_rfl)) ?_
             try go_wp2
             go_ret
             exact ⟨pE, pB⟩
         · rw [if_neg c6] at H
           exact absurd H (by simp)
       · rw [if_neg c5] at H
         exact absurd H (by simp)
     · rw [if_neg c4] at H
       have c4b0 : decide (x5_1 < (l0.length : Int)) = false := decide_eq_false c4
       clear c4
       obtain rfl := Option.some.inj H
       go_wp2
       go_ret
       exact ⟨pE, pB⟩
 · rw [if_neg c3] at H
   have c3b0 : ((l0.length : Int) == (l1.length : Int)) = false := beq_eq_false_iff_ne.mpr c3
   have c3b1 : ((l0.length : Int) != (l1.length : Int)) = true := bne_iff_ne.mpr c3
   have c3b2 : (l0.length == l1.length) = false := by first | simpa using c3 | (simp at c3 ⊢; omega)
   obtain rfl := Option.some.inj H
   go_enter Try.func67, Try.ntmps67
   go_wp2
   go_ret
   exact ⟨pE, pB⟩
def laws_eqTx.f (k : Nat) (a0_0 : Int) (l0_1 : List (S34)) (l0_2 : List (S86)) (a1_0 : Int) (l1_1 : List (S34)) (l1_2 : List (S86)) : Option (Bool) := if a0_0 = a1_0 then ((laws_eqInS.f k l0_1 l1_1).bind fun t593 => (if t593 = true then ((laws_eqOutS.f k l0_2 l1_2).bind fun t594 => (if t594 = true then (some true) else (some false))) else (some false))) else (some false)
theorem laws_eqTx.mono : ∀ a0 a1 a2 a3 a4 a5 k, LeO (laws_eqTx.f k a0 a1 a2 a3 a4 a5) (laws_eqTx.f (k + 1) a0 a1 a2 a3 a4 a5) := by
 intro a0 a1 a2 a3 a4 a5 k
 unfold laws_eqTx.f
 repeat' with_reducible first | exact laws_eqInS.mono _ _ _ | exact laws_eqOutS.mono _ _ _ | exact LeO.refl _ | exact LeO.none _ | refine LeO.ite ?_ ?_ | refine LeO.bind ?_ (fun _ => ?_)
theorem laws_eqTx.calls (k : Nat) (a0_0 : Int) (A0_1 : Option Addr) (c0_1 : Nat) (l0_1 : List (S34)) (A0_2 : Option Addr) (c0_2 : Nat) (l0_2 : List (S86)) (a1_0 : Int) (A1_1 : Option Addr) (c1_1 : Nat) (l1_1 : List (S34)) (A1_2 : Option Addr) (c1_2 : Nat) (l1_2 : List (S86)) (r : Bool) (w : World) (hr0_1 : Kd.C k34 w A0_1 l0_1.length l0_1) (hc0_1 : l0_1.length ≤ c0_1) (hr0_2 : Kd.C k86 w A0_2 l0_2.length l0_2) (hc0_2 : l0_2.length ≤ c0_2) (hr1_1 : Kd.C k34 w A1_1 l1_1.length l1_1) (hc1_1 : l1_1.length ≤ c1_1) (hr1_2 : Kd.C k86 w A1_2 l1_2.length l1_2) (hc1_2 : l1_2.length ≤ c1_2) (h : laws_eqTx.f k a0_0 l0_1 l0_2 a1_0 l1_1 l1_2 = some r) :
 Calls Try.prog 20 #[.agg #[.int .i64 a0_0, .slice A0_1 l0_1.length c0_1, .slice A0_2 l0_2.length c0_2], .agg #[.int .i64 a1_0, .slice A1_1 l1_1.length c1_1, .slice A1_2 l1_2.length c1_2]] w fun e w' => e = .returned (.bool r) ∧ Below w.heap.size w w' := by
 have hu27 := Try.underlying27
 have HR0_1 := Aside0.mk hr0_1; have HC0_1 := Aside0.mk hc0_1; clear hr0_1 hc0_1; have HR0_2 := Aside0.mk hr0_2; have HC0_2 := Aside0.mk hc0_2; clear hr0_2 hc0_2; have HR1_1 := Aside0.mk hr1_1; have HC1_1 := Aside0.mk hc1_1; clear hr1_1 hc1_1; have HR1_2 := Aside0.mk hr1_2; have HC1_2 := Aside0.mk hc1_2; clear hr1_2 hc1_2
 have HB := Aside0.mk (Below.refl w.heap.size w)
 have H : (if a0_0 = a1_0 then ((laws_eqInS.f k l0_1 l1_1).bind fun t593 => (if t593 = true then ((laws_eqOutS.f k l0_2 l1_2).bind fun t594 => (if t594 = true then (some true) else (some false))) else (some false))) else (some false)) = some r := h
 clear h
 by_cases c3 : a0_0 = a1_0
 · rw [if_pos c3] at H
   have c3b0 : (a0_0 == a1_0) = true := beq_iff_eq.mpr c3
   have c3b1 : (a0_0 != a1_0) = false := bne_eq_false_iff_eq.mpr c3
   clear c3
   obtain ⟨t593, A40, H⟩ := bO H
   replace H : (if t593 = true then ((laws_eqOutS.f k l0_2 l1_2).bind fun t594 => (if t594 = true then (some true) else (some false))) else (some false)) = some r := H
   have A4 := Aside0.mk A40; clear A40
   by_cases c5 : t593 = true
   · subst c5
     have H1 : ((laws_eqOutS.f k l0_2 l1_2).bind fun t594 => (if t594 = true then (some true) else (some false))) = some r := by rw [if_pos rfl] at H; exact H
     clear H; have H := H1; clear H1
     obtain ⟨t594, A60, H⟩ := bO H
     replace H : (if t594 = true then (some true) else (some false)) = some r := H
     have A6 := Aside0.mk A60; clear A60
     by_cases c7 : t594 = true
     · subst c7
       have H1 : (some true) = some r := by rw [if_pos rfl] at H; exact H
       clear H; have H := H1; clear H1
       obtain rfl := Option.some.inj H
       go_enter Try.func20, Try.ntmps20
       go_wp2_with (first | ((with_reducible refine gate_dst (N := 2) rfl ?_); refine box_event ?hg (N := 2) ?hd (cs := #[.int .i64 a0_0, .slice A0_1 l0_1.length c0_1, .slice A0_2 l0_2.length c0_2]) (t := 27) ?hr ?_; (case hd => rfl); (case hg => rfl); (case hr => first | (go_simp; done) | (go_simp; rfl)); intro gb591 hg w8 hbox hb; have n_ := t4 (below_step pB hb) (hbox) ((by rw [hg]; exact (below_size pB) : w.heap.size ≤ gb591)) ((by rw [hg]; exact (below_size pB) : w.heap.size ≤ gb591)); clear HB; obtain ⟨HB, BK591, GW591, GE591⟩ := n_; clear hb hbox hg) | ((with_reducible refine gate_dst (N := 3) rfl ?_); refine box_event ?hg (N := 3) ?hd (cs := #[.int .i64 a1_0, .slice A1_1 l1_1.length c1_1, .slice A1_2 l1_2.length c1_2]) (t := 27) ?hr ?_; (case hd => rfl); (case hg => rfl); (case hr => first | (go_simp; done) | (go_simp; rfl)); intro gb592 hg w9 hbox hb; have n_ := t7 (blk_below (g := gb591) (o := .cells #[.int .i64 a0_0, .slice A0_1 l0_1.length c0_1, .slice A0_2 l0_2.length c0_2] 27 (0, 0)) (pK BK591) hb) (below_step pB hb) (hbox) ((by rw [hg]; exact (below_size pB) : w.heap.size ≤ gb592)) ((by rw [hg]; exact (below_size pB) : w.heap.size ≤ gb592)) ((by rw [hg]; exact Nat.ne_of_lt (blk_lt (g := gb591) (o := .cells #[.int .i64 a0_0, .slice A0_1 l0_1.length c0_1, .slice A0_2 l0_2.length c0_2] 27 (0, 0)) (pK BK591)) : gb591 ≠ gb592)) ((by rw [hg]; exact Nat.ne_of_gt (blk_lt (g := gb591) (o := .cells #[.int .i64 a0_0, .slice A0_1 l0_1.length c0_1, .slice A0_2 l0_2.length c0_2] 27 (0, 0)) (pK BK591)) : gb592 ≠ gb591)); clear BK591 HB; obtain ⟨BK591, HB, BK592, GW592, GE592, NB591_592, NB592_591⟩ := n_; clear hb hbox hg; have hnb10 := NB591_592.out; have hnc10 := NB592_591.out; have hcz11_0 : w9.cell? ⟨gb591, 0, none⟩ = some (.int .i64 a0_0) := (blk_cell BK591.out 0).trans rfl; have hcz11_1 : w9.cell? ⟨gb591, 1, none⟩ = some (.slice A0_1 l0_1.length c0_1) := (blk_cell BK591.out 1).trans rfl; have hcz11_2 : w9.cell? ⟨gb591, 2, none⟩ = some (.slice A0_2 l0_2.length c0_2) := (blk_cell BK591.out 2).trans rfl; have hfz11_0 := blk_frozen BK591.out 0; have hfz11_1 := blk_frozen BK591.out 1; have hfz11_2 := blk_frozen BK591.out 2; have hcz12_0 : w9.cell? ⟨gb592, 0, none⟩ = some (.int .i64 a1_0) := (blk_cell BK592.out 0).trans rfl; have hcz12_1 : w9.cell? ⟨gb592, 1, none⟩ = some (.slice A1_1 l1_1.length c1_1) := (blk_cell BK592.out 1).trans rfl; have hcz12_2 : w9.cell? ⟨gb592, 2, none⟩ = some (.slice A1_2 l1_2.length c1_2) := (blk_cell BK592.out 2).trans rfl; have hfz12_0 := blk_frozen BK592.out 0; have hfz12_1 := blk_frozen BK592.out 1; have hfz12_2 := blk_frozen BK592.out 2) | ((with_reducible refine gate_callee (f := 66) rfl ?_); refine goesL_ (some 14) rfl rfl Try.func66 (by kernel_rfl) rfl #[.slice A0_1 l0_1.length c0_1, .slice A1_1 l1_1.length c1_1] rfl pA ?_; (with_reducible refine (laws_eqInS.calls k _ _ l0_1 _ _ l1_1 true _ ?side1 ?side2 ?side3 ?side4 A4.out).mono ?_); (case side1 => exact pC (Kd.C_below HR0_1.out HB.out)); (case side2 => exact HC0_1.out); (case side3 => exact pC (Kd.C_below HR1_1.out HB.out)); (case side4 => exact HC1_1.out); rintro e w13 ⟨rfl, hb⟩; refine ⟨_, rfl, ?_⟩; have n_ := t3 (blk_below (g := gb591) (o := .cells #[.int .i64 a0_0, .slice A0_1 l0_1.length c0_1, .slice A0_2 l0_2.length c0_2] 27 (0, 0)) (pK BK591) hb) (blk_below (g := gb592) (o := .cells #[.int .i64 a1_0, .slice A1_1 l1_1.length c1_1, .slice A1_2 l1_2.length c1_2] 27 (0, 0)) (pK BK592) hb) (below_step pB hb); clear BK591 BK592 HB; obtain ⟨BK591, BK592, HB⟩ := n_; (try clear hb); have hcz14_0 : w13.cell? ⟨gb591, 0, none⟩ = some (.int .i64 a0_0) := (blk_cell BK591.out 0).trans rfl; have hcz14_1 : w13.cell? ⟨gb591, 1, none⟩ = some (.slice A0_1 l0_1.length c0_1) := (blk_cell BK591.out 1).trans rfl; have hcz14_2 : w13.cell? ⟨gb591, 2, none⟩ = some (.slice A0_2 l0_2.length c0_2) := (blk_cell BK591.out 2).trans rfl; have hfz14_0 := blk_frozen BK591.out 0; have hfz14_1 := blk_frozen BK591.out 1; have hfz14_2 := blk_frozen BK591.out 2; have hcz15_0 : w13.cell? ⟨gb592, 0, none⟩ = some (.int .i64 a1_0) := (blk_cell BK592.out 0).trans rfl; have hcz15_1 : w13.cell? ⟨gb592, 1, none⟩ = some (.slice A1_1 l1_1.length c1_1) := (blk_cell BK592.out 1).trans rfl; have hcz15_2 : w13.cell? ⟨gb592, 2, none⟩ = some (.slice A1_2 l1_2.length c1_2) := (blk_cell BK592.out 2).trans rfl; have hfz15_0 := blk_frozen BK592.out 0; have hfz15_1 := blk_frozen BK592.out 1; have hfz15_2 := blk_frozen BK592.out 2) | ((with_reducible refine gate_callee (f := 67) rfl ?_); refine goesL_ (some 20) rfl rfl Try.func67 (by kernel_rfl) rfl #[.slice A0_2 l0_2.length c0_2, .slice A1_2 l1_2.length c1_2] rfl pA ?_; (with_reducible refine (laws_eqOutS.calls k _ _ l0_2 _ _ l1_2 true _ ?side1 ?side2 ?side3 ?side4 A6.out).mono ?_); (case side1 => exact pC (Kd.C_below HR0_2.out HB.out)); (case side2 => exact HC0_2.out); (case side3 => exact pC (Kd.C_below HR1_2.out HB.out)); (case side4 => exact HC1_2.out); rintro e w16 ⟨rfl, hb⟩; refine ⟨_, rfl, ?_⟩; have n_ := t3 (blk_below (g := gb591) (o := .cells #[.int .i64 a0_0, .slice A0_1 l0_1.length c0_1, .slice A0_2 l0_2.length c0_2] 27 (0, 0)) (pK BK591) hb) (blk_below (g := gb592) (o := .cells #[.int .i64 a1_0, .slice A1_1 l1_1.length c1_1, .slice A1_2 l1_2.length c1_2] 27 (0, 0)) (pK BK592) hb) (below_step pB hb); clear BK591 BK592 HB; obtain ⟨BK591, BK592, HB⟩ := n_; (try clear hb)))
       go_ret
       exact ⟨pE, pB⟩
     · replace c7 := Bool.eq_false_iff.mpr c7
       subst c7
       have H1 : (some false) = some r := by rw [if_neg (show ¬ (false = true) by decide)] at H; exact H
       clear H; have H := H1; clear H1
       obtain rfl := Option.some.inj H
       go_enter Try.func20, Try.ntmps20
       go_wp2_with (first | ((with_reducible refine gate_dst (N := 2) rfl ?_); refine box_event ?hg (N := 2) ?hd (cs := #[.int .i64 a0_0, .slice A0_1 l0_1.length c0_1, .slice A0_2 l0_2.length c0_2]) (t := 27) ?hr ?_; (case hd => rfl); (case hg => rfl); (case hr => first | (go_simp; done) | (go_simp; rfl)); intro gb591 hg w17 hbox hb; have n_ := t4 (below_step pB hb) (hbox) ((by rw [hg]; exact (below_size pB) : w.heap.size ≤ gb591)) ((by rw [hg]; exact (below_size pB) : w.heap.size ≤ gb591)); clear HB; obtain ⟨HB, BK591, GW591, GE591⟩ := n_; clear hb hbox hg) | ((with_reducible refine gate_dst (N := 3) rfl ?_); refine box_event ?hg (N := 3) ?hd (cs := #[.int .i64 a1_0, .slice A1_1 l1_1.length c1_1, .slice A1_2 l1_2.length c1_2]) (t := 27) ?hr ?_; (case hd => rfl); (case hg => rfl); (case hr => first | (go_simp; done) | (go_simp; rfl)); intro gb592 hg w18 hbox hb; have n_ := t7 (blk_below (g := gb591) (o := .cells #[.int .i64 a0_0, .slice A0_1 l0_1.length c0_1, .slice A0_2 l0_2.length c0_2] 27 (0, 0)) (pK BK591) hb) (below_step pB hb) (hbox) ((by rw [hg]; exact (below_size pB) : w.heap.size ≤ gb592)) ((by rw [hg]; exact (below_size pB) : w.heap.size ≤ gb592)) ((by rw [hg]; exact Nat.ne_of_lt (blk_lt (g := gb591) (o := .cells #[.int .i64 a0_0, .slice A0_1 l0_1.length c0_1, .slice A0_2 l0_2.length c0_2] 27 (0, 0)) (pK BK591)) : gb591 ≠ gb592)) ((by rw [hg]; exact Nat.ne_of_gt (blk_lt (g := gb591) (o := .cells #[.int .i64 a0_0, .slice A0_1 l0_1.length c0_1, .slice A0_2 l0_2.length c0_2] 27 (0, 0)) (pK BK591)) : gb592 ≠ gb591)); clear BK591 HB; obtain ⟨BK591, HB, BK592, GW592, GE592, NB591_592, NB592_591⟩ := n_; clear hb hbox hg; have hnb19 := NB591_592.out; have hnc19 := NB592_591.out; have hcz20_0 : w18.cell? ⟨gb591, 0, none⟩ = some (.int .i64 a0_0) := (blk_cell BK591.out 0).trans rfl; have hcz20_1 : w18.cell? ⟨gb591, 1, none⟩ = some (.slice A0_1 l0_1.length c0_1) := (blk_cell BK591.out 1).trans rfl; have hcz20_2 : w18.cell? ⟨gb591, 2, none⟩ = some (.slice A0_2 l0_2.length c0_2) := (blk_cell BK591.out 2).trans rfl; have hfz20_0 := blk_frozen BK591.out 0; have hfz20_1 := blk_frozen BK591.out 1; have hfz20_2 := blk_frozen BK591.out 2; have hcz21_0 : w18.cell? ⟨gb592, 0, none⟩ = some (.int .i64 a1_0) := (blk_cell BK592.out 0).trans rfl; have hcz21_1 : w18.cell? ⟨gb592, 1, none⟩ = some (.slice A1_1 l1_1.length c1_1) := (blk_cell BK592.out 1).trans rfl; have hcz21_2 : w18.cell? ⟨gb592, 2, none⟩ = some (.slice A1_2 l1_2.length c1_2) := (blk_cell BK592.out 2).trans rfl; have hfz21_0 := blk_frozen BK592.out 0; have hfz21_1 := blk_frozen BK592.out 1; have hfz21_2 := blk_frozen BK592.out 2) | ((with_reducible refine gate_callee (f := 66) rfl ?_); refine goesL_ (some 14) rfl rfl Try.func66 (by kernel_rfl) rfl #[.slice A0_1 l0_1.length c0_1, .slice A1_1 l1_1.length c1_1] rfl pA ?_; (with_reducible refine (laws_eqInS.calls k _ _ l0_1 _ _ l1_1 true _ ?side1 ?side2 ?side3 ?side4 A4.out).mono ?_); (case side1 => exact pC (Kd.C_below HR0_1.out HB.out)); (case side2 => exact HC0_1.out); (case side3 => exact pC (Kd.C_below HR1_1.out HB.out)); (case side4 => exact HC1_1.out); rintro e w22 ⟨rfl, hb⟩; refine ⟨_, rfl, ?_⟩; have n_ := t3 (blk_below (g := gb591) (o := .cells #[.int .i64 a0_0, .slice A0_1 l0_1.length c0_1, .slice A0_2 l0_2.length c0_2] 27 (0, 0)) (pK BK591) hb) (blk_below (g := gb592) (o := .cells #[.int .i64 a1_0, .slice A1_1 l1_1.length c1_1, .slice A1_2 l1_2.length c1_2] 27 (0, 0)) (pK BK592) hb) (below_step pB hb); clear BK591 BK592 HB; obtain ⟨BK591, BK592, HB⟩ := n_; (try clear hb); have hcz23_0 : w22.cell? ⟨gb591, 0, none⟩ = some (.int .i64 a0_0) := (blk_cell BK591.out 0).trans rfl; have hcz23_1 : w22.cell? ⟨gb591, 1, none⟩ = some (.slice A0_1 l0_1.length c0_1) := (blk_cell BK591.out 1).trans rfl; have hcz23_2 : w22.cell? ⟨gb591, 2, none⟩ = some (.slice A0_2 l0_2.length c0_2) := (blk_cell BK591.out 2).trans rfl; have hfz23_0 := blk_frozen BK591.out 0; have hfz23_1 := blk_frozen BK591.out 1; have hfz23_2 := blk_frozen BK591.out 2; have hcz24_0 : w22.cell? ⟨gb592, 0, none⟩ = some (.int .i64 a1_0) := (blk_cell BK592.out 0).trans rfl; have hcz24_1 : w22.cell? ⟨gb592, 1, none⟩ = some (.slice A1_1 l1_1.length c1_1) := (blk_cell BK592.out 1).trans rfl; have hcz24_2 : w22.cell? ⟨gb592, 2, none⟩ = some (.slice A1_2 l1_2.length c1_2) := (blk_cell BK592.out 2).trans rfl; have hfz24_0 := blk_frozen BK592.out 0; have hfz24_1 := blk_frozen BK592.out 1; have hfz24_2 := blk_frozen BK592.out 2) | ((with_reducible refine gate_callee (f := 67) rfl ?_); refine goesL_ (some 20) rfl rfl Try.func67 (by kernel_rfl) rfl #[.slice A0_2 l0_2.length c0_2, .slice A1_2 l1_2.length c1_2] rfl pA ?_; (with_reducible refine (laws_eqOutS.calls k _ _ l0_2 _ _ l1_2 false _ ?side1 ?side2 ?side3 ?side4 A6.out).mono ?_); (case side1 => exact pC (Kd.C_below HR0_2.out HB.out)); (case side2 => exact HC0_2.out); (case side3 => exact pC (Kd.C_below HR1_2.out HB.out)); (case side4 => exact HC1_2.out); rintro e w25 ⟨rfl, hb⟩; refine ⟨_, rfl, ?_⟩; have n_ := t3 (blk_below (g := gb591) (o := .cells #[.int .i64 a0_0, .slice A0_1 l0_1.length c0_1, .slice A0_2 l0_2.length c0_2] 27 (0, 0)) (pK BK591) hb) (blk_below (g := gb592) (o := .cells #[.int .i64 a1_0, .slice A1_1 l1_1.length c1_1, .slice A1_2 l1_2.length c1_2] 27 (0, 0)) (pK BK592) hb) (below_step pB hb); clear BK591 BK592 HB; obtain ⟨BK591, BK592, HB⟩ := n_; (try clear hb)))
       go_ret
       exact ⟨pE, pB⟩
   · replace c5 := Bool.eq_false_iff.mpr c5
     subst c5
     have H1 : (some false) = some r := by rw [if_neg (show ¬ (false = true) by decide)] at H; exact H
     clear H; have H := H1; clear H1
     obtain rfl := Option.some.inj H
     go_enter Try.func20, Try.ntmps20
     go_wp2_with (first | ((with_reducible refine gate_dst (N := 2) rfl ?_); refine box_event ?hg (N := 2) ?hd (cs := #[.int .i64 a0_0, .slice A0_1 l0_1.length c0_1, .slice A0_2 l0_2.length c0_2]) (t := 27) ?hr ?_; (case hd => rfl); (case hg => rfl); (case hr => first | (go_simp; done) | (go_simp; rfl)); intro gb591 hg w26 hbox hb; have n_ := t4 (below_step pB hb) (hbox) ((by rw [hg]; exact (below_size pB) : w.heap.size ≤ gb591)) ((by rw [hg]; exact (below_size pB) : w.heap.size ≤ gb591)); clear HB; obtain ⟨HB, BK591, GW591, GE591⟩ := n_; clear hb hbox hg) | ((with_reducible refine gate_dst (N := 3) rfl ?_); refine box_event ?hg (N := 3) ?hd (cs := #[.int .i64 a1_0, .slice A1_1 l1_1.length c1_1, .slice A1_2 l1_2.length c1_2]) (t := 27) ?hr ?_; (case hd => rfl); (case hg => rfl); (case hr => first | (go_simp; done) | (go_simp; rfl)); intro gb592 hg w27 hbox hb; have n_ := t7 (blk_below (g := gb591) (o := .cells #[.int .i64 a0_0, .slice A0_1 l0_1.length c0_1, .slice A0_2 l0_2.length c0_2] 27 (0, 0)) (pK BK591) hb) (below_step pB hb) (hbox) ((by rw [hg]; exact (below_size pB) : w.heap.size ≤ gb592)) ((by rw [hg]; exact (below_size pB) : w.heap.size ≤ gb592)) ((by rw [hg]; exact Nat.ne_of_lt (blk_lt (g := gb591) (o := .cells #[.int .i64 a0_0, .slice A0_1 l0_1.length c0_1, .slice A0_2 l0_2.length c0_2] 27 (0, 0)) (pK BK591)) : gb591 ≠ gb592)) ((by rw [hg]; exact Nat.ne_of_gt (blk_lt (g := gb591) (o := .cells #[.int .i64 a0_0, .slice A0_1 l0_1.length c0_1, .slice A0_2 l0_2.length c0_2] 27 (0, 0)) (pK BK591)) : gb592 ≠ gb591)); clear BK591 HB; obtain ⟨BK591, HB, BK592, GW592, GE592, NB591_592, NB592_591⟩ := n_; clear hb hbox hg; have hnb28 := NB591_592.out; have hnc28 := NB592_591.out; have hcz29_0 : w27.cell? ⟨gb591, 0, none⟩ = some (.int .i64 a0_0) := (blk_cell BK591.out 0).trans rfl; have hcz29_1 : w27.cell? ⟨gb591, 1, none⟩ = some (.slice A0_1 l0_1.length c0_1) := (blk_cell BK591.out 1).trans rfl; have hcz29_2 : w27.cell? ⟨gb591, 2, none⟩ = some (.slice A0_2 l0_2.length c0_2) := (blk_cell BK591.out 2).trans rfl; have hfz29_0 := blk_frozen BK591.out 0; have hfz29_1 := blk_frozen BK591.out 1; have hfz29_2 := blk_frozen BK591.out 2; have hcz30_0 : w27.cell? ⟨gb592, 0, none⟩ = some (.int .i64 a1_0) := (blk_cell BK592.out 0).trans rfl; have hcz30_1 : w27.cell? ⟨gb592, 1, none⟩ = some (.slice A1_1 l1_1.length c1_1) := (blk_cell BK592.out 1).trans rfl; have hcz30_2 : w27.cell? ⟨gb592, 2, none⟩ = some (.slice A1_2 l1_2.length c1_2) := (blk_cell BK592.out 2).trans rfl; have hfz30_0 := blk_frozen BK592.out 0; have hfz30_1 := blk_frozen BK592.out 1; have hfz30_2 := blk_frozen BK592.out 2) | ((with_reducible refine gate_callee (f := 66) rfl ?_); refine goesL_ (some 14) rfl rfl Try.func66 (by kernel_rfl) rfl #[.slice A0_1 l0_1.length c0_1, .slice A1_1 l1_1.length c1_1] rfl pA ?_; (with_reducible refine (laws_eqInS.calls k _ _ l0_1 _ _ l1_1 false _ ?side1 ?side2 ?side3 ?side4 A4.out).mono ?_); (case side1 => exact pC (Kd.C_below HR0_1.out HB.out)); (case side2 => exact HC0_1.out); (case side3 => exact pC (Kd.C_below HR1_1.out HB.out)); (case side4 => exact HC1_1.out); rintro e w31 ⟨rfl, hb⟩; refine ⟨_, rfl, ?_⟩; have n_ := t3 (blk_below (g := gb591) (o := .cells #[.int .i64 a0_0, .slice A0_1 l0_1.length c0_1, .slice A0_2 l0_2.length c0_2] 27 (0, 0)) (pK BK591) hb) (blk_below (g := gb592) (o := .cells #[.int .i64 a1_0, .slice A1_1 l1_1.length c1_1, .slice A1_2 l1_2.length c1_2] 27 (0, 0)) (pK BK592) hb) (below_step pB hb); clear BK591 BK592 HB; obtain ⟨BK591, BK592, HB⟩ := n_; (try clear hb)))
     go_ret
     exact ⟨pE, pB⟩
 · rw [if_neg c3] at H
   have c3b0 : (a0_0 == a1_0) = false := beq_eq_false_iff_ne.mpr c3
   have c3b1 : (a0_0 != a1_0) = true := bne_iff_ne.mpr c3
   obtain rfl := Option.some.inj H
   go_enter Try.func20, Try.ntmps20
   go_wp2_with (first | ((with_reducible refine gate_dst (N := 2) rfl ?_); refine box_event ?hg (N := 2) ?hd (cs := #[.int .i64 a0_0, .slice A0_1 l0_1.length c0_1, .slice A0_2 l0_2.length c0_2]) (t := 27) ?hr ?_; (case hd => rfl); (case hg => rfl); (case hr => first | (go_simp; done) | (go_simp; rfl)); intro gb591 hg w32 hbox hb; have n_ := t4 (below_step pB hb) (hbox) ((by rw [hg]; exact (below_size pB) : w.heap.size ≤ gb591)) ((by rw [hg]; exact (below_size pB) : w.heap.size ≤ gb591)); clear HB; obtain ⟨HB, BK591, GW591, GE591⟩ := n_; clear hb hbox hg) | ((with_reducible refine gate_dst (N := 3) rfl ?_); refine box_event ?hg (N := 3) ?hd (cs := #[.int .i64 a1_0, .slice A1_1 l1_1.length c1_1, .slice A1_2 l1_2.length c1_2]) (t := 27) ?hr ?_; (case hd => rfl); (case hg => rfl); (case hr => first | (go_simp; done) | (go_simp; rfl)); intro gb592 hg w33 hbox hb; have n_ := t7 (blk_below (g := gb591) (o := .cells #[.int .i64 a0_0, .slice A0_1 l0_1.length c0_1, .slice A0_2 l0_2.length c0_2] 27 (0, 0)) (pK BK591) hb) (below_step pB hb) (hbox) ((by rw [hg]; exact (below_size pB) : w.heap.size ≤ gb592)) ((by rw [hg]; exact (below_size pB) : w.heap.size ≤ gb592)) ((by rw [hg]; exact Nat.ne_of_lt (blk_lt (g := gb591) (o := .cells #[.int .i64 a0_0, .slice A0_1 l0_1.length c0_1, .slice A0_2 l0_2.length c0_2] 27 (0, 0)) (pK BK591)) : gb591 ≠ gb592)) ((by rw [hg]; exact Nat.ne_of_gt (blk_lt (g := gb591) (o := .cells #[.int .i64 a0_0, .slice A0_1 l0_1.length c0_1, .slice A0_2 l0_2.length c0_2] 27 (0, 0)) (pK BK591)) : gb592 ≠ gb591)); clear BK591 HB; obtain ⟨BK591, HB, BK592, GW592, GE592, NB591_592, NB592_591⟩ := n_; clear hb hbox hg; have hnb34 := NB591_592.out; have hnc34 := NB592_591.out; have hcz35_0 : w33.cell? ⟨gb591, 0, none⟩ = some (.int .i64 a0_0) := (blk_cell BK591.out 0).trans rfl; have hcz35_1 : w33.cell? ⟨gb591, 1, none⟩ = some (.slice A0_1 l0_1.length c0_1) := (blk_cell BK591.out 1).trans rfl; have hcz35_2 : w33.cell? ⟨gb591, 2, none⟩ = some (.slice A0_2 l0_2.length c0_2) := (blk_cell BK591.out 2).trans rfl; have hfz35_0 := blk_frozen BK591.out 0; have hfz35_1 := blk_frozen BK591.out 1; have hfz35_2 := blk_frozen BK591.out 2; have hcz36_0 : w33.cell? ⟨gb592, 0, none⟩ = some (.int .i64 a1_0) := (blk_cell BK592.out 0).trans rfl; have hcz36_1 : w33.cell? ⟨gb592, 1, none⟩ = some (.slice A1_1 l1_1.length c1_1) := (blk_cell BK592.out 1).trans rfl; have hcz36_2 : w33.cell? ⟨gb592, 2, none⟩ = some (.slice A1_2 l1_2.length c1_2) := (blk_cell BK592.out 2).trans rfl; have hfz36_0 := blk_frozen BK592.out 0; have hfz36_1 := blk_frozen BK592.out 1; have hfz36_2 := blk_frozen BK592.out 2))
   go_ret
   exact ⟨pE, pB⟩
end Go.Proofs.Ythjlbpgiaehjnaa.QFnExactBlockFault
