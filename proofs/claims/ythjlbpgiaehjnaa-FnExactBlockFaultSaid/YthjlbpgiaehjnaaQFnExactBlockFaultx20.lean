-- written by this session's program (wip/tools/myprint.py)
import Derived.Test.YthjlbpgiaehjnaaQFnExactBlockFaultx0
import Derived.Test.YthjlbpgiaehjnaaQFnExactBlockFaultx1
import Derived.Test.YthjlbpgiaehjnaaQFnExactBlockFaultx9
import Derived.Test.YthjlbpgiaehjnaaQFnExactBlockFaultx17
import Derived.Test.YthjlbpgiaehjnaaQFnExactBlockFaultx19
-- squeezed
namespace Go.Proofs.Ythjlbpgiaehjnaa.QFnExactBlockFault
open Go.RowKit Go.Proofs.YthjlbpgiaehjnaaW.PrintWords Go.Proofs.YthjlbpgiaehjnaaW.PrintLast Go.Proofs.YthjlbpgiaehjnaaW.PrintMore
attribute [local go_sem] max2_int min2_int max_two min_two max_three min_three max_four min_four   -- for this text's walks alone
set_option linter.unusedVariables false
set_option linter.unusedSimpArgs false
set_option maxHeartbeats 8000000
set_option maxRecDepth 100000
def laws_eqTxS.l0 : Nat → List (S27) → List (S27) → Int → Option (Bool)
 | 0, _, _, _ => none
 | k + 1, x0, x1, x5 => if x5 < (x0.length : Int) then (if 0 ≤ x5 then (if x5 < (x1.length : Int) then ((laws_eqTx.f k ((rd_T27 x0 x5).f0) ((rd_T27 x0 x5).f1) ((rd_T27 x0 x5).f2) ((rd_T27 x1 x5).f0) ((rd_T27 x1 x5).f1) ((rd_T27 x1 x5).f2)).bind fun t597 => (if t597 = true then (laws_eqTxS.l0 k x0 x1 (wrap64 (x5 + 1))) else (some false))) else (none)) else (none)) else (some true)
def laws_eqTxS.f (k : Nat) (l0 : List (S27)) (l1 : List (S27)) : Option (Bool) := if (l0.length : Int) = (l1.length : Int) then (laws_eqTxS.l0 k l0 l1 0) else (some false)
theorem laws_eqTxS.mono_l : ∀ k, (∀ y0 y1 y2, LeO (laws_eqTxS.l0 k y0 y1 y2) (laws_eqTxS.l0 (k + 1) y0 y1 y2))
 | 0 => fun _ _ _ r h => by simp [laws_eqTxS.l0] at h
 | k + 1 => by
  have ih0 := laws_eqTxS.mono_l k
  · intro y0 y1 y2
    unfold laws_eqTxS.l0
    repeat' with_reducible first | exact ih0 _ _ _ | exact laws_eqTx.mono _ _ _ _ _ _ _ | exact LeO.refl _ | exact LeO.none _ | refine LeO.ite ?_ ?_ | refine LeO.bind ?_ (fun _ => ?_)
theorem laws_eqTxS.mono : ∀ a0 a1 k, LeO (laws_eqTxS.f k a0 a1) (laws_eqTxS.f (k + 1) a0 a1) := by
 intro a0 a1 k
 have ih0 := laws_eqTxS.mono_l k
 unfold laws_eqTxS.f
 repeat' with_reducible first | exact ih0 _ _ _ | exact laws_eqTx.mono _ _ _ _ _ _ _ | exact LeO.refl _ | exact LeO.none _ | refine LeO.ite ?_ ?_ | refine LeO.bind ?_ (fun _ => ?_)
def laws_eqTxS.T6 : Bool × List (List Nat × List Nat) := (true, [([], []), ([], []), ([0, 1], [0, 1]), ([2], [2]), ([], []), ([], []), ([4, 5], [4, 5]), ([6], [6]), ([3, 7], [3, 7]), ([8], [8])])
def laws_eqTxS.B6 : List Nat := [0, 0, 3, 7, 0, 0, 48, 112, 255, 511]
theorem laws_eqTxS.tab6 : rtab .any (opsOf Try.f96 6) = laws_eqTxS.T6 := by kernel_rfl
theorem laws_eqTxS.bits6 : waitsOk laws_eqTxS.T6.2 laws_eqTxS.B6 = true := by kernel_rfl
theorem laws_eqTxS.calls (k : Nat) (A0 : Option Addr) (c0 : Nat) (l0 : List (S27)) (A1 : Option Addr) (c1 : Nat) (l1 : List (S27)) (r : Bool) (w : World) (hr0 : Kd.C k27 w A0 l0.length l0) (hc0 : l0.length ≤ c0) (hr1 : Kd.C k27 w A1 l1.length l1) (hc1 : l1.length ≤ c1) (h : laws_eqTxS.f k l0 l1 = some r) :
 Calls Try.prog 96 #[.slice A0 l0.length c0, .slice A1 l1.length c1] w fun e w' => e = .returned (.bool r) ∧ Below w.heap.size w w' := by
 have hu27 := Try.underlying27
 have HR0 := Aside0.mk hr0; have HC0 := Aside0.mk hc0; clear hr0 hc0; have HR1 := Aside0.mk hr1; have HC1 := Aside0.mk hc1; clear hr1 hc1
 have HB := Aside0.mk (Below.refl w.heap.size w)
 have H : (if (l0.length : Int) = (l1.length : Int) then (laws_eqTxS.l0 k l0 l1 0) else (some false)) = some r := h
 clear h
 by_cases c3 : (l0.length : Int) = (l1.length : Int)
 · rw [if_pos c3] at H
   have c3b0 : ((l0.length : Int) == (l1.length : Int)) = true := beq_iff_eq.mpr c3
   have c3b1 : ((l0.length : Int) != (l1.length : Int)) = false := bne_eq_false_iff_eq.mpr c3
   have c3b2 : (l0.length == l1.length) = true := by first | simpa using c3 | (simp at c3 ⊢; omega)
   clear c3
   have H' := Aside0.mk H
   clear H
   go_enter Try.func96, Try.ntmps96
   go_wp2
   go_loopg [5] k (fun kq v5 w' => ∃ (x5_1 : Int), v5 = .int .i64 x5_1 ∧ Aside0 (laws_eqTxS.l0 kq l0 l1 x5_1 = some r) ∧ Aside0 (kq ≤ k) ∧ Aside0 (Below w.heap.size w w'))
   case atStart => exact ⟨(0), pF, H', ⟨Nat.le_refl _⟩, ⟨pB⟩⟩
   case round =>
    clear H'
    (try clear c1); (try clear p2); (try clear c3); (try clear c3b0); (try clear c3b1); (try clear c3b2)
    obtain ⟨x5_1, rfl, HA, HK1, HB⟩ := hrel
    cases gk with
    | zero => exact absurd HA.out (by simp [laws_eqTxS.l0])
    | succ k1 =>
     have H := HA.out
     clear HA
     simp only [laws_eqTxS.l0] at H
     by_cases c4 : x5_1 < (l0.length : Int)
     · rw [if_pos c4] at H
       have c4b0 : decide (x5_1 < (l0.length : Int)) = true := decide_eq_true c4
       clear c4
       by_cases c5 : 0 ≤ x5_1
       · rw [if_pos c5] at H
         have c5b0 : decide (0 ≤ x5_1) = true := decide_eq_true c5
         clear c5
         by_cases c6 : x5_1 < (l1.length : Int)
         · rw [if_pos c6] at H
           have c6b0 : decide (x5_1 < (l1.length : Int)) = true := decide_eq_true c6
           clear c6
           obtain ⟨t597, A70, H⟩ := bO H
           replace H : (if t597 = true then (laws_eqTxS.l0 k1 l0 l1 (wrap64 (x5_1 + 1))) else (some false)) = some r := H
           have A7 := Aside0.mk A70; clear A70
           by_cases c8 : t597 = true
           · subst c8
             have H1 : (laws_eqTxS.l0 k1 l0 l1 (wrap64 (x5_1 + 1))) = some r := by rw [if_pos rfl] at H; exact H
             clear H; have H := H1; clear H1
             have H' := Aside0.mk H
             clear H
             try go_wp2
             have n_ := am (below_drew1 HB.out)
             clear HB; have HB := n_; clear n_
             have p595 : 0 ≤ (x5_1 : Int) := pD
             have q595 : x5_1 < (l0.length : Int) := pD
             obtain ⟨ad595, A595_1, c595_1, A595_2, c595_2, e595, hx595_0, hx595_1, hx595_2, hl595_1, hi595_1, hl595_2, hi595_2⟩ := at_T27 HR0.out x5_1 p595 q595
             have hw595_2 := hx595_2
             have hw595_1 := hx595_1
             have hw595_0 := hx595_0
             cases e595; replace hx595_0 := cb HB hx595_0; replace hx595_1 := cb HB hx595_1; replace hx595_2 := cb HB hx595_2; have HR595_1 := Aside0.mk hi595_1; have HC595_1 := Aside0.mk hl595_1; clear hi595_1 hl595_1; have HR595_2 := Aside0.mk hi595_2; have HC595_2 := Aside0.mk hl595_2; clear hi595_2 hl595_2; replace p595 := eq_true p595; replace q595 := eq_true q595
             have p596 : 0 ≤ (x5_1 : Int) := pD
             have q596 : x5_1 < (l1.length : Int) := pD
             obtain ⟨ad596, A596_1, c596_1, A596_2, c596_2, e596, hx596_0, hx596_1, hx596_2, hl596_1, hi596_1, hl596_2, hi596_2⟩ := at_T27 HR1.out x5_1 p596 q596
             have hw596_2 := hx596_2
             have hw596_1 := hx596_1
             have hw596_0 := hx596_0
             cases e596; replace hx596_0 := cb HB hx596_0; replace hx596_1 := cb HB hx596_1; replace hx596_2 := cb HB hx596_2; have HR596_1 := Aside0.mk hi596_1; have HC596_1 := Aside0.mk hl596_1; clear hi596_1 hl596_1; have HR596_2 := Aside0.mk hi596_2; have HC596_2 := Aside0.mk hl596_2; clear hi596_2 hl596_2; replace p596 := eq_true p596; replace q596 := eq_true q596
             refine start_ (n := 10) (S := fun w' => w'.cell? (ad595.add ((x5_1).toNat * 3)) = some (.int .i64 ((rd_T27 l0 x5_1).f0)) ∧ w'.cell? ⟨(ad595.add ((x5_1).toNat * 3)).block, (ad595.add ((x5_1).toNat * 3)).off + 1, none⟩ = some (.slice A595_1 ((rd_T27 l0 x5_1).f1).length c595_1) ∧ w'.cell? ⟨(ad595.add ((x5_1).toNat * 3)).block, (ad595.add ((x5_1).toNat * 3)).off + 2, none⟩ = some (.slice A595_2 ((rd_T27 l0 x5_1).f2).length c595_2) ∧ w'.cell? (ad596.add ((x5_1).toNat * 3)) = some (.int .i64 ((rd_T27 l1 x5_1).f0)) ∧ w'.cell? ⟨(ad596.add ((x5_1).toNat * 3)).block, (ad596.add ((x5_1).toNat * 3)).off + 1, none⟩ = some (.slice A596_1 ((rd_T27 l1 x5_1).f1).length c596_1) ∧ w'.cell? ⟨(ad596.add ((x5_1).toNat * 3)).block, (ad596.add ((x5_1).toNat * 3)).off + 2, none⟩ = some (.slice A596_2 ((rd_T27 l1 x5_1).f2).length c596_2)) (ds := []) #[false, false, false, false, false, false, false, false, false, false] (by kernel_rfl) rfl rfl ⟨(cb HB hw595_0), (cb HB hw595_1), (cb HB hw595_2), (cb HB hw596_0), (cb HB hw596_1), (cb HB hw596_2)⟩ (fun hHeld => ?_); refine with_tabW laws_eqTxS.tab6 laws_eqTxS.bits6 (fun HT_ HW_ => ?_)
             generalize wr.drew = w9 at HB HR595_1 HR595_2 HR596_1 HR596_2 hx595_0 hx595_1 hx595_2 hx596_0 hx596_1 hx596_2 hHeld ⊢
             refine rP 0 (some 17) #[true, false, false, false, false, false, false, false, false, false] (any_of HT_.out (by kernel_rfl)) ?_
             refine rP 1 (some 18) #[true, true, false, false, false, false, false, false, false, false] (any_of HT_.out (by kernel_rfl)) ?_
             refine rP 2 (some 19) #[true, true, true, false, false, false, false, false, false, false] (any_of HT_.out (by kernel_rfl)) ?_
             refine rP 4 (some 21) #[true, true, true, false, true, false, false, false, false, false] (any_of HT_.out (by kernel_rfl)) ?_
             refine rP 5 (some 22) #[true, true, true, false, true, true, false, false, false, false] (any_of HT_.out (by kernel_rfl)) ?_
             refine rP 6 (some 23) #[true, true, true, false, true, true, true, false, false, false] (any_of HT_.out (by kernel_rfl)) ?_
             refine rT 3 (some 20) #[true, true, true, true, true, true, true, false, false, false] (take_ofW HT_.out HW_.out (by kernel_rfl)) hHeld ?_
             refine rT 7 (some 24) #[true, true, true, true, true, true, true, true, false, false] (take_ofW HT_.out HW_.out (by kernel_rfl)) hHeld ?_
             refine one_ (i := 8) (N := some 25) #[true, true, true, true, true, true, true, true, true, false] rfl rfl (one_of HT_.out (by kernel_rfl)) (by decide) (fun K hK => ?_)
             refine goes_ Try.func20 (by kernel_rfl) rfl #[.agg #[.int .i64 ((rd_T27 l0 x5_1).f0), .slice A595_1 ((rd_T27 l0 x5_1).f1).length c595_1, .slice A595_2 ((rd_T27 l0 x5_1).f2).length c595_2], .agg #[.int .i64 ((rd_T27 l1 x5_1).f0), .slice A596_1 ((rd_T27 l1 x5_1).f1).length c596_1, .slice A596_2 ((rd_T27 l1 x5_1).f2).length c596_2]] (by rfl) rfl rfl pA ?_
             with_reducible refine (laws_eqTx.calls k1 ((rd_T27 l0 x5_1).f0) _ _ ((rd_T27 l0 x5_1).f1) _ _ ((rd_T27 l0 x5_1).f2) ((rd_T27 l1 x5_1).f0) _ _ ((rd_T27 l1 x5_1).f1) _ _ ((rd_T27 l1 x5_1).f2) true _ ?side1 ?side2 ?side3 ?side4 ?side5 ?side6 ?side7 ?side8 A7.out).mono ?_
             (case side1 => exact pC (Kd.C_below HR595_1.out HB.out))
             (case side2 => exact HC595_1.out)
             (case side3 => exact pC (Kd.C_below HR595_2.out HB.out))
             (case side4 => exact HC595_2.out)
             (case side5 => exact pC (Kd.C_below HR596_1.out HB.out))
             (case side6 => exact HC596_1.out)
             (case side7 => exact pC (Kd.C_below HR596_2.out HB.out))
             (case side8 => exact HC596_2.out)
             rintro e w10 ⟨rfl, hb⟩
             refine ⟨_, rfl, ?_⟩
             have n_ := am (below_step pB hb)
             clear HB; have HB := n_; clear n_; (try clear hb); (try clear hb2); (try clear hk); (try clear hi)
             refine hK.out _ _ ⟨(cb HB hw595_0), (cb HB hw595_1), (cb HB hw595_2), (cb HB hw596_0), (cb HB hw596_1), (cb HB hw596_2)⟩ (fun hHeld => ?_)
             clear hK K
             refine rN ?_
             refine rP 9 (some 26) #[true, true, true, true, true, true, true, true, true, true] (any_of HT_.out (by kernel_rfl)) ?_
             refine done_ (done_of HT_.out (by kernel_rfl)) ?_
             try go_wp2
             go_roundg k1
             case measure => have := HK1.out; omega
             case rel => exact ⟨(wrap64 (x5_1 + 1)), pF, H', ⟨by have := HK1.out; omega⟩, ⟨pB⟩⟩
           · replace c8 := Bool.eq_false_iff.mpr c8
             subst c8
             have H1 : (some false) = some r := by rw [if_neg (show ¬ (false = true) by decide)] at H; exact H
             clear H; have H := H1; clear H1
             obtain rfl := Option.some.inj H
             try go_wp2
             have n_ := am (below_drew1 HB.out)
             clear HB; have HB := n_; clear n_
             have p595 : 0 ≤ (x5_1 : Int) := pD
             have q595 : x5_1 < (l0.length : Int) := pD
             obtain ⟨ad595, A595_1, c595_1, A595_2, c595_2, e595, hx595_0, hx595_1, hx595_2, hl595_1, hi595_1, hl595_2, hi595_2⟩ := at_T27 HR0.out x5_1 p595 q595
             have hw595_2 := hx595_2
             have hw595_1 := hx595_1
             have hw595_0 := hx595_0
             cases e595; replace hx595_0 := cb HB hx595_0; replace hx595_1 := cb HB hx595_1; replace hx595_2 := cb HB hx595_2; have HR595_1 := Aside0.mk hi595_1; have HC595_1 := Aside0.mk hl595_1; clear hi595_1 hl595_1; have HR595_2 := Aside0.mk hi595_2; have HC595_2 := Aside0.mk hl595_2; clear hi595_2 hl595_2; replace p595 := eq_true p595; replace q595 := eq_true q595
             have p596 : 0 ≤ (x5_1 : Int) := pD
             have q596 : x5_1 < (l1.length : Int) := pD
             obtain ⟨ad596, A596_1, c596_1, A596_2, c596_2, e596, hx596_0, hx596_1, hx596_2, hl596_1, hi596_1, hl596_2, hi596_2⟩ := at_T27 HR1.out x5_1 p596 q596
             have hw596_2 := hx596_2
             have hw596_1 := hx596_1
             have hw596_0 := hx596_0
             cases e596; replace hx596_0 := cb HB hx596_0; replace hx596_1 := cb HB hx596_1; replace hx596_2 := cb HB hx596_2; have HR596_1 := Aside0.mk hi596_1; have HC596_1 := Aside0.mk hl596_1; clear hi596_1 hl596_1; have HR596_2 := Aside0.mk hi596_2; have HC596_2 := Aside0.mk hl596_2; clear hi596_2 hl596_2; replace p596 := eq_true p596; replace q596 := eq_true q596
             refine start_ (n := 10) (S := fun w' => w'.cell? (ad595.add ((x5_1).toNat * 3)) = some (.int .i64 ((rd_T27 l0 x5_1).f0)) ∧ w'.cell? ⟨(ad595.add ((x5_1).toNat * 3)).block, (ad595.add ((x5_1).toNat * 3)).off + 1, none⟩ = some (.slice A595_1 ((rd_T27 l0 x5_1).f1).length c595_1) ∧ w'.cell? ⟨(ad595.add ((x5_1).toNat * 3)).block, (ad595.add ((x5_1).toNat * 3)).off + 2, none⟩ = some (.slice A595_2 ((rd_T27 l0 x5_1).f2).length c595_2) ∧ w'.cell? (ad596.add ((x5_1).toNat * 3)) = some (.int .i64 ((rd_T27 l1 x5_1).f0)) ∧ w'.cell? ⟨(ad596.add ((x5_1).toNat * 3)).block, (ad596.add ((x5_1).toNat * 3)).off + 1, none⟩ = some (.slice A596_1 ((rd_T27 l1 x5_1).f1).length c596_1) ∧ w'.cell? ⟨(ad596.add ((x5_1).toNat * 3)).block, (ad596.add ((x5_1).toNat * 3)).off + 2, none⟩ = some (.slice A596_2 ((rd_T27 l1 x5_1).f2).length c596_2)) (ds := []) #[false, false, false, false, false, false, false, false, false, false] (by kernel_rfl) rfl rfl ⟨(cb HB hw595_0), (cb HB hw595_1), (cb HB hw595_2), (cb HB hw596_0), (cb HB hw596_1), (cb HB hw596_2)⟩ (fun hHeld => ?_); refine with_tabW laws_eqTxS.tab6 laws_eqTxS.bits6 (fun HT_ HW_ => ?_)
             generalize wr.drew = w11 at HB HR595_1 HR595_2 HR596_1 HR596_2 hx595_0 hx595_1 hx595_2 hx596_0 hx596_1 hx596_2 hHeld ⊢
             refine rP 0 (some 17) #[true, false, false, false, false, false, false, false, false, false] (any_of HT_.out (by kernel_rfl)) ?_
             refine rP 1 (some 18) #[true, true, false, false, false, false, false, false, false, false] (any_of HT_.out (by kernel_rfl)) ?_
             refine rP 2 (some 19) #[true, true, true, false, false, false, false, false, false, false] (any_of HT_.out (by kernel_rfl)) ?_
             refine rP 4 (some 21) #[true, true, true, false, true, false, false, false, false, false] (any_of HT_.out (by kernel_rfl)) ?_
             refine rP 5 (some 22) #[true, true, true, false, true, true, false, false, false, false] (any_of HT_.out (by kernel_rfl)) ?_
             refine rP 6 (some 23) #[true, true, true, false, true, true, true, false, false, false] (any_of HT_.out (by kernel_rfl)) ?_
             refine rT 3 (some 20) #[true, true, true, true, true, true, true, false, false, false] (take_ofW HT_.out HW_.out (by kernel_rfl)) hHeld ?_
             refine rT 7 (some 24) #[true, true, true, true, true, true, true, true, false, false] (take_ofW HT_.out HW_.out (by kernel_rfl)) hHeld ?_
             refine one_ (i := 8) (N := some 25) #[true, true, true, true, true, true, true, true, true, false] rfl rfl (one_of HT_.out (by kernel_rfl)) (by decide) (fun K hK => ?_)
             refine goes_ Try.func20 (by kernel_rfl) rfl #[.agg #[.int .i64 ((rd_T27 l0 x5_1).f0), .slice A595_1 ((rd_T27 l0 x5_1).f1).length c595_1, .slice A595_2 ((rd_T27 l0 x5_1).f2).length c595_2], .agg #[.int .i64 ((rd_T27 l1 x5_1).f0), .slice A596_1 ((rd_T27 l1 x5_1).f1).length c596_1, .slice A596_2 ((rd_T27 l1 x5_1).f2).length c596_2]] (by rfl) rfl rfl pA ?_
             with_reducible refine (laws_eqTx.calls k1 ((rd_T27 l0 x5_1).f0) _ _ ((rd_T27 l0 x5_1).f1) _ _ ((rd_T27 l0 x5_1).f2) ((rd_T27 l1 x5_1).f0) _ _ ((rd_T27 l1 x5_1).f1) _ _ ((rd_T27 l1 x5_1).f2) false _ ?side1 ?side2 ?side3 ?side4 ?side5 ?side6 ?side7 ?side8 A7.out).mono ?_
             (case side1 => exact pC (Kd.C_below HR595_1.out HB.out))
             (case side2 => exact HC595_1.out)
             (case side3 => exact pC (Kd.C_below HR595_2.out HB.out))
             (case side4 => exact HC595_2.out)
             (case side5 => exact pC (Kd.C_below HR596_1.out HB.out))
             (case side6 => exact HC596_1.out)
             (case side7 => exact pC (Kd.C_below HR596_2.out HB.out))
             (case side8 => exact HC596_2.out)
             rintro e w12 ⟨rfl, hb⟩
             refine ⟨_, rfl, ?_⟩
             have n_ := am (below_step pB hb)
             clear HB; have HB := n_; clear n_; (try clear hb); (try clear hb2); (try clear hk); (try clear hi)
             refine hK.out _ _ ⟨(cb HB hw595_0), (cb HB hw595_1), (cb HB hw595_2), (cb HB hw596_0), (cb HB hw596_1), (cb HB hw596_2)⟩ (fun hHeld => ?_)
             clear hK K
             refine rN ?_
             refine rP 9 (some 26) #[true, true, true, true, true, true, true, true, true, true] (any_of HT_.out (by kernel_rfl)) ?_
             refine done_ (done_of HT_.out (by kernel_rfl)) ?_
             try go_wp2
             go_ret
             exact ⟨pE, pB⟩
         · rw [if_neg c6] at H
           exact absurd H (by simp)
       · rw [if_neg c5] at H
         exact absurd H (by simp)
     · rw [if_neg c4] at H
       have c4b0 : decide (x5_1 < (l0.length : Int)) = false := decide_eq_false c4
       clear c4
       obtain rfl := Option.some.inj H
       go_wp2
       go_ret
       exact ⟨pE, pB⟩
 · rw [if_neg c3] at H
   have c3b0 : ((l0.length : Int) == (l1.length : Int)) = false := beq_eq_false_iff_ne.mpr c3
   have c3b1 : ((l0.length : Int) != (l1.length : Int)) = true := bne_iff_ne.mpr c3
   have c3b2 : (l0.length == l1.length) = false := by first | simpa using c3 | (simp at c3 ⊢; omega)
   obtain rfl := Option.some.inj H
   go_enter Try.func96, Try.ntmps96
   go_wp2
   go_ret
   exact ⟨pE, pB⟩
def laws_eqBlock.f (k : Nat) (a0_0 : Int) (a0_1 : Int) (a0_2 : Int) (a0_3 : Int) (l0_4 : List (S27)) (a1_0 : Int) (a1_1 : Int) (a1_2 : Int) (a1_3 : Int) (l1_4 : List (S27)) : Option (Bool) := if a0_0 = a1_0 then (if a0_1 = a1_1 then (if a0_2 = a1_2 then (if a0_3 = a1_3 then ((laws_eqTxS.f k l0_4 l1_4).bind fun t600 => (if t600 = true then (some true) else (some false))) else (some false)) else (some false)) else (some false)) else (some false)
theorem laws_eqBlock.mono : ∀ a0 a1 a2 a3 a4 a5 a6 a7 a8 a9 k, LeO (laws_eqBlock.f k a0 a1 a2 a3 a4 a5 a6 a7 a8 a9) (laws_eqBlock.f (k + 1) a0 a1 a2 a3 a4 a5 a6 a7 a8 a9) := by
 intro a0 a1 a2 a3 a4 a5 a6 a7 a8 a9 k
 unfold laws_eqBlock.f
 repeat' with_reducible first | exact laws_eqTxS.mono _ _ _ | exact LeO.refl _ | exact LeO.none _ | refine LeO.ite ?_ ?_ | refine LeO.bind ?_ (fun _ => ?_)
theorem laws_eqBlock.calls (k : Nat) (a0_0 : Int) (a0_1 : Int) (a0_2 : Int) (a0_3 : Int) (A0_4 : Option Addr) (c0_4 : Nat) (l0_4 : List (S27)) (a1_0 : Int) (a1_1 : Int) (a1_2 : Int) (a1_3 : Int) (A1_4 : Option Addr) (c1_4 : Nat) (l1_4 : List (S27)) (r : Bool) (w : World) (hr0_4 : Kd.C k27 w A0_4 l0_4.length l0_4) (hc0_4 : l0_4.length ≤ c0_4) (hr1_4 : Kd.C k27 w A1_4 l1_4.length l1_4) (hc1_4 : l1_4.length ≤ c1_4) (h : laws_eqBlock.f k a0_0 a0_1 a0_2 a0_3 l0_4 a1_0 a1_1 a1_2 a1_3 l1_4 = some r) :
 Calls Try.prog 47 #[.agg #[.int .i64 a0_0, .int .i64 a0_1, .int .i64 a0_2, .int .i64 a0_3, .slice A0_4 l0_4.length c0_4], .agg #[.int .i64 a1_0, .int .i64 a1_1, .int .i64 a1_2, .int .i64 a1_3, .slice A1_4 l1_4.length c1_4]] w fun e w' => e = .returned (.bool r) ∧ Below w.heap.size w w' := by
 have hu72 := Try.underlying72
 have HR0_4 := Aside0.mk hr0_4; have HC0_4 := Aside0.mk hc0_4; clear hr0_4 hc0_4; have HR1_4 := Aside0.mk hr1_4; have HC1_4 := Aside0.mk hc1_4; clear hr1_4 hc1_4
 have HB := Aside0.mk (Below.refl w.heap.size w)
 have H : (if a0_0 = a1_0 then (if a0_1 = a1_1 then (if a0_2 = a1_2 then (if a0_3 = a1_3 then ((laws_eqTxS.f k l0_4 l1_4).bind fun t600 => (if t600 = true then (some true) else (some false))) else (some false)) else (some false)) else (some false)) else (some false)) = some r := h
 clear h
 by_cases c3 : a0_0 = a1_0
 · rw [if_pos c3] at H
   have c3b0 : (a0_0 == a1_0) = true := beq_iff_eq.mpr c3
   have c3b1 : (a0_0 != a1_0) = false := bne_eq_false_iff_eq.mpr c3
   clear c3
   by_cases c4 : a0_1 = a1_1
   · rw [if_pos c4] at H
     have c4b0 : (a0_1 == a1_1) = true := beq_iff_eq.mpr c4
     have c4b1 : (a0_1 != a1_1) = false := bne_eq_false_iff_eq.mpr c4
     clear c4
     by_cases c5 : a0_2 = a1_2
     · rw [if_pos c5] at H
       have c5b0 : (a0_2 == a1_2) = true := beq_iff_eq.mpr c5
       have c5b1 : (a0_2 != a1_2) = false := bne_eq_false_iff_eq.mpr c5
       clear c5
       by_cases c6 : a0_3 = a1_3
       · rw [if_pos c6] at H
         have c6b0 : (a0_3 == a1_3) = true := beq_iff_eq.mpr c6
         have c6b1 : (a0_3 != a1_3) = false := bne_eq_false_iff_eq.mpr c6
         clear c6
         obtain ⟨t600, A70, H⟩ := bO H
         replace H : (if t600 = true then (some true) else (some false)) = some r := H
         have A7 := Aside0.mk A70; clear A70
         by_cases c8 : t600 = true
         · subst c8
           have H1 : (some true) = some r := by rw [if_pos rfl] at H; exact H
           clear H; have H := H1; clear H1
           obtain rfl := Option.some.inj H
           go_enter Try.func47, Try.ntmps47
           go_wp2_with (first | ((with_reducible refine gate_dst (N := 2) rfl ?_); refine box_event ?hg (N := 2) ?hd (cs := #[.int .i64 a0_0, .int .i64 a0_1, .int .i64 a0_2, .int .i64 a0_3, .slice A0_4 l0_4.length c0_4]) (t := 72) ?hr ?_; (case hd => rfl); (case hg => rfl); (case hr => first | (go_simp; done) | (go_simp; rfl)); intro gb598 hg w9 hbox hb; have n_ := t4 (below_step pB hb) (hbox) ((by rw [hg]; exact (below_size pB) : w.heap.size ≤ gb598)) ((by rw [hg]; exact (below_size pB) : w.heap.size ≤ gb598)); clear HB; obtain ⟨HB, BK598, GW598, GE598⟩ := n_; clear hb hbox hg) | ((with_reducible refine gate_dst (N := 3) rfl ?_); refine box_event ?hg (N := 3) ?hd (cs := #[.int .i64 a1_0, .int .i64 a1_1, .int .i64 a1_2, .int .i64 a1_3, .slice A1_4 l1_4.length c1_4]) (t := 72) ?hr ?_; (case hd => rfl); (case hg => rfl); (case hr => first | (go_simp; done) | (go_simp; rfl)); intro gb599 hg w10 hbox hb; have n_ := t7 (blk_below (g := gb598) (o := .cells #[.int .i64 a0_0, .int .i64 a0_1, .int .i64 a0_2, .int .i64 a0_3, .slice A0_4 l0_4.length c0_4] 72 (0, 0)) (pK BK598) hb) (below_step pB hb) (hbox) ((by rw [hg]; exact (below_size pB) : w.heap.size ≤ gb599)) ((by rw [hg]; exact (below_size pB) : w.heap.size ≤ gb599)) ((by rw [hg]; exact Nat.ne_of_lt (blk_lt (g := gb598) (o := .cells #[.int .i64 a0_0, .int .i64 a0_1, .int .i64 a0_2, .int .i64 a0_3, .slice A0_4 l0_4.length c0_4] 72 (0, 0)) (pK BK598)) : gb598 ≠ gb599)) ((by rw [hg]; exact Nat.ne_of_gt (blk_lt (g := gb598) (o := .cells #[.int .i64 a0_0, .int .i64 a0_1, .int .i64 a0_2, .int .i64 a0_3, .slice A0_4 l0_4.length c0_4] 72 (0, 0)) (pK BK598)) : gb599 ≠ gb598)); clear BK598 HB; obtain ⟨BK598, HB, BK599, GW599, GE599, NB598_599, NB599_598⟩ := n_; clear hb hbox hg; have hnb11 := NB598_599.out; have hnc11 := NB599_598.out; have hcz12_0 : w10.cell? ⟨gb598, 0, none⟩ = some (.int .i64 a0_0) := (blk_cell BK598.out 0).trans rfl; have hcz12_1 : w10.cell? ⟨gb598, 1, none⟩ = some (.int .i64 a0_1) := (blk_cell BK598.out 1).trans rfl; have hcz12_2 : w10.cell? ⟨gb598, 2, none⟩ = some (.int .i64 a0_2) := (blk_cell BK598.out 2).trans rfl; have hcz12_3 : w10.cell? ⟨gb598, 3, none⟩ = some (.int .i64 a0_3) := (blk_cell BK598.out 3).trans rfl; have hcz12_4 : w10.cell? ⟨gb598, 4, none⟩ = some (.slice A0_4 l0_4.length c0_4) := (blk_cell BK598.out 4).trans rfl; have hfz12_0 := blk_frozen BK598.out 0; have hfz12_1 := blk_frozen BK598.out 1; have hfz12_2 := blk_frozen BK598.out 2; have hfz12_3 := blk_frozen BK598.out 3; have hfz12_4 := blk_frozen BK598.out 4; have hcz13_0 : w10.cell? ⟨gb599, 0, none⟩ = some (.int .i64 a1_0) := (blk_cell BK599.out 0).trans rfl; have hcz13_1 : w10.cell? ⟨gb599, 1, none⟩ = some (.int .i64 a1_1) := (blk_cell BK599.out 1).trans rfl; have hcz13_2 : w10.cell? ⟨gb599, 2, none⟩ = some (.int .i64 a1_2) := (blk_cell BK599.out 2).trans rfl; have hcz13_3 : w10.cell? ⟨gb599, 3, none⟩ = some (.int .i64 a1_3) := (blk_cell BK599.out 3).trans rfl; have hcz13_4 : w10.cell? ⟨gb599, 4, none⟩ = some (.slice A1_4 l1_4.length c1_4) := (blk_cell BK599.out 4).trans rfl; have hfz13_0 := blk_frozen BK599.out 0; have hfz13_1 := blk_frozen BK599.out 1; have hfz13_2 := blk_frozen BK599.out 2; have hfz13_3 := blk_frozen BK599.out 3; have hfz13_4 := blk_frozen BK599.out 4) | ((with_reducible refine gate_callee (f := 96) rfl ?_); refine goesL_ (some 29) rfl rfl Try.func96 (by kernel_rfl) rfl #[.slice A0_4 l0_4.length c0_4, .slice A1_4 l1_4.length c1_4] rfl pA ?_; (with_reducible refine (laws_eqTxS.calls k _ _ l0_4 _ _ l1_4 true _ ?side1 ?side2 ?side3 ?side4 A7.out).mono ?_); (case side1 => exact pC (Kd.C_below HR0_4.out HB.out)); (case side2 => exact HC0_4.out); (case side3 => exact pC (Kd.C_below HR1_4.out HB.out)); (case side4 => exact HC1_4.out); rintro e w14 ⟨rfl, hb⟩; refine ⟨_, rfl, ?_⟩; have n_ := t3 (blk_below (g := gb598) (o := .cells #[.int .i64 a0_0, .int .i64 a0_1, .int .i64 a0_2, .int .i64 a0_3, .slice A0_4 l0_4.length c0_4] 72 (0, 0)) (pK BK598) hb) (blk_below (g := gb599) (o := .cells #[.int .i64 a1_0, .int .i64 a1_1, .int .i64 a1_2, .int .i64 a1_3, .slice A1_4 l1_4.length c1_4] 72 (0, 0)) (pK BK599) hb) (below_step pB hb); clear BK598 BK599 HB; obtain ⟨BK598, BK599, HB⟩ := n_; (try clear hb)))
           go_ret
           exact ⟨pE, pB⟩
         · replace c8 := Bool.eq_false_iff.mpr c8
           subst c8
           have H1 : (some false) = some r := by rw [if_neg (show ¬ (false = true) by decide)] at H; exact H
           clear H; have H := H1; clear H1
           obtain rfl := Option.some.inj H
           go_enter Try.func47, Try.ntmps47
           go_wp2_with (first | ((with_reducible refine gate_dst (N := 2) rfl ?_); refine box_event ?hg (N := 2) ?hd (cs := #[.int .i64 a0_0, .int .i64 a0_1, .int .i64 a0_2, .int .i64 a0_3, .slice A0_4 l0_4.length c0_4]) (t := 72) ?hr ?_; (case hd => rfl); (case hg => rfl); (case hr => first | (go_simp; done) | (go_simp; rfl)); intro gb598 hg w15 hbox hb; have n_ := t4 (below_step pB hb) (hbox) ((by rw [hg]; exact (below_size pB) : w.heap.size ≤ gb598)) ((by rw [hg]; exact (below_size pB) : w.heap.size ≤ gb598)); clear HB; obtain ⟨HB, BK598, GW598, GE598⟩ := n_; clear hb hbox hg) | ((with_reducible refine gate_dst (N := 3) rfl ?_); refine box_event ?hg (N := 3) ?hd (cs := #[.int .i64 a1_0, .int .i64 a1_1, .int .i64 a1_2, .int .i64 a1_3, .slice A1_4 l1_4.length c1_4]) (t := 72) ?hr ?_; (case hd => rfl); (case hg => rfl); (case hr => first | (go_simp; done) | (go_simp; rfl)); intro gb599 hg w16 hbox hb; have n_ := t7 (blk_below (g := gb598) (o := .cells #[.int .i64 a0_0, .int .i64 a0_1, .int .i64 a0_2, .int .i64 a0_3, .slice A0_4 l0_4.length c0_4] 72 (0, 0)) (pK BK598) hb) (below_step pB hb) (hbox) ((by rw [hg]; exact (below_size pB) : w.heap.size ≤ gb599)) ((by rw [hg]; exact (below_size pB) : w.heap.size ≤ gb599)) ((by rw [hg]; exact Nat.ne_of_lt (blk_lt (g := gb598) (o := .cells #[.int .i64 a0_0, .int .i64 a0_1, .int .i64 a0_2, .int .i64 a0_3, .slice A0_4 l0_4.length c0_4] 72 (0, 0)) (pK BK598)) : gb598 ≠ gb599)) ((by rw [hg]; exact Nat.ne_of_gt (blk_lt (g := gb598) (o := .cells #[.int .i64 a0_0, .int .i64 a0_1, .int .i64 a0_2, .int .i64 a0_3, .slice A0_4 l0_4.length c0_4] 72 (0, 0)) (pK BK598)) : gb599 ≠ gb598)); clear BK598 HB; obtain ⟨BK598, HB, BK599, GW599, GE599, NB598_599, NB599_598⟩ := n_; clear hb hbox hg; have hnb17 := NB598_599.out; have hnc17 := NB599_598.out; have hcz18_0 : w16.cell? ⟨gb598, 0, none⟩ = some (.int .i64 a0_0) := (blk_cell BK598.out 0).trans rfl; have hcz18_1 : w16.cell? ⟨gb598, 1, none⟩ = some (.int .i64 a0_1) := (blk_cell BK598.out 1).trans rfl; have hcz18_2 : w16.cell? ⟨gb598, 2, none⟩ = some (.int .i64 a0_2) := (blk_cell BK598.out 2).trans rfl; have hcz18_3 : w16.cell? ⟨gb598, 3, none⟩ = some (.int .i64 a0_3) := (blk_cell BK598.out 3).trans rfl; have hcz18_4 : w16.cell? ⟨gb598, 4, none⟩ = some (.slice A0_4 l0_4.length c0_4) := (blk_cell BK598.out 4).trans rfl; have hfz18_0 := blk_frozen BK598.out 0; have hfz18_1 := blk_frozen BK598.out 1; have hfz18_2 := blk_frozen BK598.out 2; have hfz18_3 := blk_frozen BK598.out 3; have hfz18_4 := blk_frozen BK598.out 4; have hcz19_0 : w16.cell? ⟨gb599, 0, none⟩ = some (.int .i64 a1_0) := (blk_cell BK599.out 0).trans rfl; have hcz19_1 : w16.cell? ⟨gb599, 1, none⟩ = some (.int .i64 a1_1) := (blk_cell BK599.out 1).trans rfl; have hcz19_2 : w16.cell? ⟨gb599, 2, none⟩ = some (.int .i64 a1_2) := (blk_cell BK599.out 2).trans rfl; have hcz19_3 : w16.cell? ⟨gb599, 3, none⟩ = some (.int .i64 a1_3) := (blk_cell BK599.out 3).trans rfl; have hcz19_4 : w16.cell? ⟨gb599, 4, none⟩ = some (.slice A1_4 l1_4.length c1_4) := (blk_cell BK599.out 4).trans rfl; have hfz19_0 := blk_frozen BK599.out 0; have hfz19_1 := blk_frozen BK599.out 1; have hfz19_2 := blk_frozen BK599.out 2; have hfz19_3 := blk_frozen BK599.out 3; have hfz19_4 := blk_frozen BK599.out 4) | ((with_reducible refine gate_callee (f := 96) rfl ?_); refine goesL_ (some 29) rfl rfl Try.func96 (by kernel_rfl) rfl #[.slice A0_4 l0_4.length c0_4, .slice A1_4 l1_4.length c1_4] rfl pA ?_; (with_reducible refine (laws_eqTxS.calls k _ _ l0_4 _ _ l1_4 false _ ?side1 ?side2 ?side3 ?side4 A7.out).mono ?_); (case side1 => exact pC (Kd.C_below HR0_4.out HB.out)); (case side2 => exact HC0_4.out); (case side3 => exact pC (Kd.C_below HR1_4.out HB.out)); (case side4 => exact HC1_4.out); rintro e w20 ⟨rfl, hb⟩; refine ⟨_, rfl, ?_⟩; have n_ := t3 (blk_below (g := gb598) (o := .cells #[.int .i64 a0_0, .int .i64 a0_1, .int .i64 a0_2, .int .i64 a0_3, .slice A0_4 l0_4.length c0_4] 72 (0, 0)) (pK BK598) hb) (blk_below (g := gb599) (o := .cells #[.int .i64 a1_0, .int .i64 a1_1, .int .i64 a1_2, .int .i64 a1_3, .slice A1_4 l1_4.length c1_4] 72 (0, 0)) (pK BK599) hb) (below_step pB hb); clear BK598 BK599 HB; obtain ⟨BK598, BK599, HB⟩ := n_; (try clear hb)))
           go_ret
           exact ⟨pE, pB⟩
       · rw [if_neg c6] at H
         have c6b0 : (a0_3 == a1_3) = false := beq_eq_false_iff_ne.mpr c6
         have c6b1 : (a0_3 != a1_3) = true := bne_iff_ne.mpr c6
         obtain rfl := Option.some.inj H
         go_enter Try.func47, Try.ntmps47
         go_wp2_with (first | ((with_reducible refine gate_dst (N := 2) rfl ?_); refine box_event ?hg (N := 2) ?hd (cs := #[.int .i64 a0_0, .int .i64 a0_1, .int .i64 a0_2, .int .i64 a0_3, .slice A0_4 l0_4.length c0_4]) (t := 72) ?hr ?_; (case hd => rfl); (case hg => rfl); (case hr => first | (go_simp; done) | (go_simp; rfl)); intro gb598 hg w21 hbox hb; have n_ := t4 (below_step pB hb) (hbox) ((by rw [hg]; exact (below_size pB) : w.heap.size ≤ gb598)) ((by rw [hg]; exact (below_size pB) : w.heap.size ≤ gb598)); clear HB; obtain ⟨HB, BK598, GW598, GE598⟩ := n_; clear hb hbox hg) | ((with_reducible refine gate_dst (N := 3) rfl ?_); refine box_event ?hg (N := 3) ?hd (cs := #[.int .i64 a1_0, .int .i64 a1_1, .int .i64 a1_2, .int .i64 a1_3, .slice A1_4 l1_4.length c1_4]) (t := 72) ?hr ?_; (case hd => rfl); (case hg => rfl); (case hr => first | (go_simp; done) | (go_simp; rfl)); intro gb599 hg w22 hbox hb; have n_ := t7 (blk_below (g := gb598) (o := .cells #[.int .i64 a0_0, .int .i64 a0_1, .int .i64 a0_2, .int .i64 a0_3, .slice A0_4 l0_4.length c0_4] 72 (0, 0)) (pK BK598) hb) (below_step pB hb) (hbox) ((by rw [hg]; exact (below_size pB) : w.heap.size ≤ gb599)) ((by rw [hg]; exact (below_size pB) : w.heap.size ≤ gb599)) ((by rw [hg]; exact Nat.ne_of_lt (blk_lt (g := gb598) (o := .cells #[.int .i64 a0_0, .int .i64 a0_1, .int .i64 a0_2, .int .i64 a0_3, .slice A0_4 l0_4.length c0_4] 72 (0, 0)) (pK BK598)) : gb598 ≠ gb599)) ((by rw [hg]; exact Nat.ne_of_gt (blk_lt (g := gb598) (o := .cells #[.int .i64 a0_0, .int .i64 a0_1, .int .i64 a0_2, .int .i64 a0_3, .slice A0_4 l0_4.length c0_4] 72 (0, 0)) (pK BK598)) : gb599 ≠ gb598)); clear BK598 HB; obtain ⟨BK598, HB, BK599, GW599, GE599, NB598_599, NB599_598⟩ := n_; clear hb hbox hg; have hnb23 := NB598_599.out; have hnc23 := NB599_598.out; have hcz24_0 : w22.cell? ⟨gb598, 0, none⟩ = some (.int .i64 a0_0) := (blk_cell BK598.out 0).trans rfl; have hcz24_1 : w22.cell? ⟨gb598, 1, none⟩ = some (.int .i64 a0_1) := (blk_cell BK598.out 1).trans rfl; have hcz24_2 : w22.cell? ⟨gb598, 2, none⟩ = some (.int .i64 a0_2) := (blk_cell BK598.out 2).trans rfl; have hcz24_3 : w22.cell? ⟨gb598, 3, none⟩ = some (.int .i64 a0_3) := (blk_cell BK598.out 3).trans rfl; have hcz24_4 : w22.cell? ⟨gb598, 4, none⟩ = some (.slice A0_4 l0_4.length c0_4) := (blk_cell BK598.out 4).trans rfl; have hfz24_0 := blk_frozen BK598.out 0; have hfz24_1 := blk_frozen BK598.out 1; have hfz24_2 := blk_frozen BK598.out 2; have hfz24_3 := blk_frozen BK598.out 3; have hfz24_4 := blk_frozen BK598.out 4; have hcz25_0 : w22.cell? ⟨gb599, 0, none⟩ = some (.int .i64 a1_0) := (blk_cell BK599.out 0).trans rfl; have hcz25_1 : w22.cell? ⟨gb599, 1, none⟩ = some (.int .i64 a1_1) := (blk_cell BK599.out 1).trans rfl; have hcz25_2 : w22.cell? ⟨gb599, 2, none⟩ = some (.int .i64 a1_2) := (blk_cell BK599.out 2).trans rfl; have hcz25_3 : w22.cell? ⟨gb599, 3, none⟩ = some (.int .i64 a1_3) := (blk_cell BK599.out 3).trans rfl; have hcz25_4 : w22.cell? ⟨gb599, 4, none⟩ = some (.slice A1_4 l1_4.length c1_4) := (blk_cell BK599.out 4).trans rfl; have hfz25_0 := blk_frozen BK599.out 0; have hfz25_1 := blk_frozen BK599.out 1; have hfz25_2 := blk_frozen BK599.out 2; have hfz25_3 := blk_frozen BK599.out 3; have hfz25_4 := blk_frozen BK599.out 4))
         go_ret
         exact ⟨pE, pB⟩
     · rw [if_neg c5] at H
       have c5b0 : (a0_2 == a1_2) = false := beq_eq_false_iff_ne.mpr c5
       have c5b1 : (a0_2 != a1_2) = true := bne_iff_ne.mpr c5
       obtain rfl := Option.some.inj H
       go_enter Try.func47, Try.ntmps47
       go_wp2_with (first | ((with_reducible refine gate_dst (N := 2) rfl ?_); refine box_event ?hg (N := 2) ?hd (cs := #[.int .i64 a0_0, .int .i64 a0_1, .int .i64 a0_2, .int .i64 a0_3, .slice A0_4 l0_4.length c0_4]) (t := 72) ?hr ?_; (case hd => rfl); (case hg => rfl); (case hr => first | (go_simp; done) | (go_simp; rfl)); intro gb598 hg w26 hbox hb; have n_ := t4 (below_step pB hb) (hbox) ((by rw [hg]; exact (below_size pB) : w.heap.size ≤ gb598)) ((by rw [hg]; exact (below_size pB) : w.heap.size ≤ gb598)); clear HB; obtain ⟨HB, BK598, GW598, GE598⟩ := n_; clear hb hbox hg) | ((with_reducible refine gate_dst (N := 3) rfl ?_); refine box_event ?hg (N := 3) ?hd (cs := #[.int .i64 a1_0, .int .i64 a1_1, .int .i64 a1_2, .int .i64 a1_3, .slice A1_4 l1_4.length c1_4]) (t := 72) ?hr ?_; (case hd => rfl); (case hg => rfl); (case hr => first | (go_simp; done) | (go_simp; rfl)); intro gb599 hg w27 hbox hb; have n_ := t7 (blk_below (g := gb598) (o := .cells #[.int .i64 a0_0, .int .i64 a0_1, .int .i64 a0_2, .int .i64 a0_3, .slice A0_4 l0_4.length c0_4] 72 (0, 0)) (pK BK598) hb) (below_step pB hb) (hbox) ((by rw [hg]; exact (below_size pB) : w.heap.size ≤ gb599)) ((by rw [hg]; exact (below_size pB) : w.heap.size ≤ gb599)) ((by rw [hg]; exact Nat.ne_of_lt (blk_lt (g := gb598) (o := .cells #[.int .i64 a0_0, .int .i64 a0_1, .int .i64 a0_2, .int .i64 a0_3, .slice A0_4 l0_4.length c0_4] 72 (0, 0)) (pK BK598)) : gb598 ≠ gb599)) ((by rw [hg]; exact Nat.ne_of_gt (blk_lt (g := gb598) (o := .cells #[.int .i64 a0_0, .int .i64 a0_1, .int .i64 a0_2, .int .i64 a0_3, .slice A0_4 l0_4.length c0_4] 72 (0, 0)) (pK BK598)) : gb599 ≠ gb598)); clear BK598 HB; obtain ⟨BK598, HB, BK599, GW599, GE599, NB598_599, NB599_598⟩ := n_; clear hb hbox hg; have hnb28 := NB598_599.out; have hnc28 := NB599_598.out; have hcz29_0 : w27.cell? ⟨gb598, 0, none⟩ = some (.int .i64 a0_0) := (blk_cell BK598.out 0).trans rfl; have hcz29_1 : w27.cell? ⟨gb598, 1, none⟩ = some (.int .i64 a0_1) := (blk_cell BK598.out 1).trans rfl; have hcz29_2 : w27.cell? ⟨gb598, 2, none⟩ = some (.int .i64 a0_2) := (blk_cell BK598.out 2).trans rfl; have hcz29_3 : w27.cell? ⟨gb598, 3, none⟩ = some (.int .i64 a0_3) := (blk_cell BK598.out 3).trans rfl; have hcz29_4 : w27.cell? ⟨gb598, 4, none⟩ = some (.slice A0_4 l0_4.length c0_4) := (blk_cell BK598.out 4).trans rfl; have hfz29_0 := blk_frozen BK598.out 0; have hfz29_1 := blk_frozen BK598.out 1; have hfz29_2 := blk_frozen BK598.out 2; have hfz29_3 := blk_frozen BK598.out 3; have hfz29_4 := blk_frozen BK598.out 4; have hcz30_0 : w27.cell? ⟨gb599, 0, none⟩ = some (.int .i64 a1_0) := (blk_cell BK599.out 0).trans rfl; have hcz30_1 : w27.cell? ⟨gb599, 1, none⟩ = some (.int .i64 a1_1) := (blk_cell BK599.out 1).trans rfl; have hcz30_2 : w27.cell? ⟨gb599, 2, none⟩ = some (.int .i64 a1_2) := (blk_cell BK599.out 2).trans rfl; have hcz30_3 : w27.cell? ⟨gb599, 3, none⟩ = some (.int .i64 a1_3) := (blk_cell BK599.out 3).trans rfl; have hcz30_4 : w27.cell? ⟨gb599, 4, none⟩ = some (.slice A1_4 l1_4.length c1_4) := (blk_cell BK599.out 4).trans rfl; have hfz30_0 := blk_frozen BK599.out 0; have hfz30_1 := blk_frozen BK599.out 1; have hfz30_2 := blk_frozen BK599.out 2; have hfz30_3 := blk_frozen BK599.out 3; have hfz30_4 := blk_frozen BK599.out 4))
       go_ret
       exact ⟨pE, pB⟩
   · rw [if_neg c4] at H
     have c4b0 : (a0_1 == a1_1) = false := beq_eq_false_iff_ne.mpr c4
     have c4b1 : (a0_1 != a1_1) = true := bne_iff_ne.mpr c4
     obtain rfl := Option.some.inj H
     go_enter Try.func47, Try.ntmps47
     go_wp2_with (first | ((with_reducible refine gate_dst (N := 2) rfl ?_); refine box_event ?hg (N := 2) ?hd (cs := #[.int .i64 a0_0, .int .i64 a0_1, .int .i64 a0_2, .int .i64 a0_3, .slice A0_4 l0_4.length c0_4]) (t := 72) ?hr ?_; (case hd => rfl); (case hg => rfl); (case hr => first | (go_simp; done) | (go_simp; rfl)); intro gb598 hg w31 hbox hb; have n_ := t4 (below_step pB hb) (hbox) ((by rw [hg]; exact (below_size pB) : w.heap.size ≤ gb598)) ((by rw [hg]; exact (below_size pB) : w.heap.size ≤ gb598)); clear HB; obtain ⟨HB, BK598, GW598, GE598⟩ := n_; clear hb hbox hg) | ((with_reducible refine gate_dst (N := 3) rfl ?_); refine box_event ?hg (N := 3) ?hd (cs := #[.int .i64 a1_0, .int .i64 a1_1, .int .i64 a1_2, .int .i64 a1_3, .slice A1_4 l1_4.length c1_4]) (t := 72) ?hr ?_; (case hd => rfl); (case hg => rfl); (case hr => first | (go_simp; done) | (go_simp; rfl)); intro gb599 hg w32 hbox hb; have n_ := t7 (blk_below (g := gb598) (o := .cells #[.int .i64 a0_0, .int .i64 a0_1, .int .i64 a0_2, .int .i64 a0_3, .slice A0_4 l0_4.length c0_4] 72 (0, 0)) (pK BK598) hb) (below_step pB hb) (hbox) ((by rw [hg]; exact (below_size pB) : w.heap.size ≤ gb599)) ((by rw [hg]; exact (below_size pB) : w.heap.size ≤ gb599)) ((by rw [hg]; exact Nat.ne_of_lt (blk_lt (g := gb598) (o := .cells #[.int .i64 a0_0, .int .i64 a0_1, .int .i64 a0_2, .int .i64 a0_3, .slice A0_4 l0_4.length c0_4] 72 (0, 0)) (pK BK598)) : gb598 ≠ gb599)) ((by rw [hg]; exact Nat.ne_of_gt (blk_lt (g := gb598) (o := .cells #[.int .i64 a0_0, .int .i64 a0_1, .int .i64 a0_2, .int .i64 a0_3, .slice A0_4 l0_4.length c0_4] 72 (0, 0)) (pK BK598)) : gb599 ≠ gb598)); clear BK598 HB; obtain ⟨BK598, HB, BK599, GW599, GE599, NB598_599, NB599_598⟩ := n_; clear hb hbox hg; have hnb33 := NB598_599.out; have hnc33 := NB599_598.out; have hcz34_0 : w32.cell? ⟨gb598, 0, none⟩ = some (.int .i64 a0_0) := (blk_cell BK598.out 0).trans rfl; have hcz34_1 : w32.cell? ⟨gb598, 1, none⟩ = some (.int .i64 a0_1) := (blk_cell BK598.out 1).trans rfl; have hcz34_2 : w32.cell? ⟨gb598, 2, none⟩ = some (.int .i64 a0_2) := (blk_cell BK598.out 2).trans rfl; have hcz34_3 : w32.cell? ⟨gb598, 3, none⟩ = some (.int .i64 a0_3) := (blk_cell BK598.out 3).trans rfl; have hcz34_4 : w32.cell? ⟨gb598, 4, none⟩ = some (.slice A0_4 l0_4.length c0_4) := (blk_cell BK598.out 4).trans rfl; have hfz34_0 := blk_frozen BK598.out 0; have hfz34_1 := blk_frozen BK598.out 1; have hfz34_2 := blk_frozen BK598.out 2; have hfz34_3 := blk_frozen BK598.out 3; have hfz34_4 := blk_frozen BK598.out 4; have hcz35_0 : w32.cell? ⟨gb599, 0, none⟩ = some (.int .i64 a1_0) := (blk_cell BK599.out 0).trans rfl; have hcz35_1 : w32.cell? ⟨gb599, 1, none⟩ = some (.int .i64 a1_1) := (blk_cell BK599.out 1).trans rfl; have hcz35_2 : w32.cell? ⟨gb599, 2, none⟩ = some (.int .i64 a1_2) := (blk_cell BK599.out 2).trans rfl; have hcz35_3 : w32.cell? ⟨gb599, 3, none⟩ = some (.int .i64 a1_3) := (blk_cell BK599.out 3).trans rfl; have hcz35_4 : w32.cell? ⟨gb599, 4, none⟩ = some (.slice A1_4 l1_4.length c1_4) := (blk_cell BK599.out 4).trans rfl; have hfz35_0 := blk_frozen BK599.out 0; have hfz35_1 := blk_frozen BK599.out 1; have hfz35_2 := blk_frozen BK599.out 2; have hfz35_3 := blk_frozen BK599.out 3; have hfz35_4 := blk_frozen BK599.out 4))
     go_ret
     exact ⟨pE, pB⟩
 · rw [if_neg c3] at H
   have c3b0 : (a0_0 == a1_0) = false := beq_eq_false_iff_ne.mpr c3
   have c3b1 : (a0_0 != a1_0) = true := bne_iff_ne.mpr c3
   obtain rfl := Option.some.inj H
   go_enter Try.func47, Try.ntmps47
   go_wp2_with (first | ((with_reducible refine gate_dst (N := 2) rfl ?_); refine box_event ?hg (N := 2) ?hd (cs := #[.int .i64 a0_0, .int .i64 a0_1, .int .i64 a0_2, .int .i64 a0_3, .slice A0_4 l0_4.length c0_4]) (t := 72) ?hr ?_; (case hd => rfl); (case hg => rfl); (case hr => first | (go_simp; done) | (go_simp; rfl)); intro gb598 hg w36 hbox hb; have n_ := t4 (below_step pB hb) (hbox) ((by rw [hg]; exact (below_size pB) : w.heap.size ≤ gb598)) ((by rw [hg]; exact (below_size pB) : w.heap.size ≤ gb598)); clear HB; obtain ⟨HB, BK598, GW598, GE598⟩ := n_; clear hb hbox hg) | ((with_reducible refine gate_dst (N := 3) rfl ?_); refine box_event ?hg (N := 3) ?hd (cs := #[.int .i64 a1_0, .int .i64 a1_1, .int .i64 a1_2, .int .i64 a1_3, .slice A1_4 l1_4.length c1_4]) (t := 72) ?hr ?_; (case hd => rfl); (case hg => rfl); (case hr => first | (go_simp; done) | (go_simp; rfl)); intro gb599 hg w37 hbox hb; have n_ := t7 (blk_below (g := gb598) (o := .cells #[.int .i64 a0_0, .int .i64 a0_1, .int .i64 a0_2, .int .i64 a0_3, .slice A0_4 l0_4.length c0_4] 72 (0, 0)) (pK BK598) hb) (below_step pB hb) (hbox) ((by rw [hg]; exact (below_size pB) : w.heap.size ≤ gb599)) ((by rw [hg]; exact (below_size pB) : w.heap.size ≤ gb599)) ((by rw [hg]; exact Nat.ne_of_lt (blk_lt (g := gb598) (o := .cells #[.int .i64 a0_0, .int .i64 a0_1, .int .i64 a0_2, .int .i64 a0_3, .slice A0_4 l0_4.length c0_4] 72 (0, 0)) (pK BK598)) : gb598 ≠ gb599)) ((by rw [hg]; exact Nat.ne_of_gt (blk_lt (g := gb598) (o := .cells #[.int .i64 a0_0, .int .i64 a0_1, .int .i64 a0_2, .int .i64 a0_3, .slice A0_4 l0_4.length c0_4] 72 (0, 0)) (pK BK598)) : gb599 ≠ gb598)); clear BK598 HB; obtain ⟨BK598, HB, BK599, GW599, GE599, NB598_599, NB599_598⟩ := n_; clear hb hbox hg; have hnb38 := NB598_599.out; have hnc38 := NB599_598.out; have hcz39_0 : w37.cell? ⟨gb598, 0, none⟩ = some (.int .i64 a0_0) := (blk_cell BK598.out 0).trans rfl; have hcz39_1 : w37.cell? ⟨gb598, 1, none⟩ = some (.int .i64 a0_1) := (blk_cell BK598.out 1).trans rfl; have hcz39_2 : w37.cell? ⟨gb598, 2, none⟩ = some (.int .i64 a0_2) := (blk_cell BK598.out 2).trans rfl; have hcz39_3 : w37.cell? ⟨gb598, 3, none⟩ = some (.int .i64 a0_3) := (blk_cell BK598.out 3).trans rfl; have hcz39_4 : w37.cell? ⟨gb598, 4, none⟩ = some (.slice A0_4 l0_4.length c0_4) := (blk_cell BK598.out 4).trans rfl; have hfz39_0 := blk_frozen BK598.out 0; have hfz39_1 := blk_frozen BK598.out 1; have hfz39_2 := blk_frozen BK598.out 2; have hfz39_3 := blk_frozen BK598.out 3; have hfz39_4 := blk_frozen BK598.out 4; have hcz40_0 : w37.cell? ⟨gb599, 0, none⟩ = some (.int .i64 a1_0) := (blk_cell BK599.out 0).trans rfl; have hcz40_1 : w37.cell? ⟨gb599, 1, none⟩ = some (.int .i64 a1_1) := (blk_cell BK599.out 1).trans rfl; have hcz40_2 : w37.cell? ⟨gb599, 2, none⟩ = some (.int .i64 a1_2) := (blk_cell BK599.out 2).trans rfl; have hcz40_3 : w37.cell? ⟨gb599, 3, none⟩ = some (.int .i64 a1_3) := (blk_cell BK599.out 3).trans rfl; have hcz40_4 : w37.cell? ⟨gb599, 4, none⟩ = some (.slice A1_4 l1_4.length c1_4) := (blk_cell BK599.out 4).trans rfl; have hfz40_0 := blk_frozen BK599.out 0; have hfz40_1 := blk_frozen BK599.out 1; have hfz40_2 := blk_frozen BK599.out 2; have hfz40_3 := blk_frozen BK599.out 3; have hfz40_4 := blk_frozen BK599.out 4))
   go_ret
   exact ⟨pE, pB⟩
def laws_FnExactBlockFault.f (k : Nat) (a0_0 : Int) (a0_1 : Int) (a0_2 : Int) (a0_3 : Int) (l0_4 : List (S43)) : Option (Bool) := (laws_szBlock.f k a0_0 a0_1 a0_2 a0_3 l0_4 1048576).bind fun t602 => (if t602 < 0 then (some true) else ((laws_toBlock.f k a0_0 a0_1 a0_2 a0_3 l0_4).bind fun bt603 => ((spec_BlockFault.f k bt603.1 bt603.2.1 bt603.2.2.1 bt603.2.2.2.1 bt603.2.2.2.2).bind fun t610 => ((laws_toBlock.f k a0_0 a0_1 a0_2 a0_3 l0_4).bind fun bt611 => ((impl_BlockFault.f k bt611.1 bt611.2.1 bt611.2.2.1 bt611.2.2.2.1 bt611.2.2.2.2).bind fun t619 => (if t619 = t610 then ((laws_toBlock.f k a0_0 a0_1 a0_2 a0_3 l0_4).bind fun bt620 => ((laws_eqBlock.f k bt611.1 bt611.2.1 bt611.2.2.1 bt611.2.2.2.1 bt611.2.2.2.2 bt620.1 bt620.2.1 bt620.2.2.1 bt620.2.2.2.1 bt620.2.2.2.2).bind fun t627 => (if t627 = true then (some true) else (none)))) else (none)))))))
theorem laws_FnExactBlockFault.mono : ∀ a0 a1 a2 a3 a4 k, LeO (laws_FnExactBlockFault.f k a0 a1 a2 a3 a4) (laws_FnExactBlockFault.f (k + 1) a0 a1 a2 a3 a4) := by
 intro a0 a1 a2 a3 a4 k
 unfold laws_FnExactBlockFault.f
 repeat' with_reducible first | exact impl_BlockFault.mono _ _ _ _ _ _ | exact laws_eqBlock.mono _ _ _ _ _ _ _ _ _ _ _ | exact laws_szBlock.mono _ _ _ _ _ _ _ | exact laws_toBlock.mono _ _ _ _ _ _ | exact spec_BlockFault.mono _ _ _ _ _ _ | exact LeO.refl _ | exact LeO.none _ | refine LeO.ite ?_ ?_ | refine LeO.bind ?_ (fun _ => ?_)
theorem laws_FnExactBlockFault.calls (k : Nat) (a0_0 : Int) (a0_1 : Int) (a0_2 : Int) (a0_3 : Int) (A0_4 : Option Addr) (c0_4 : Nat) (l0_4 : List (S43)) (r : Bool) (w : World) (hr0_4 : Kd.C k43 w A0_4 l0_4.length l0_4) (hc0_4 : l0_4.length ≤ c0_4) (h : laws_FnExactBlockFault.f k a0_0 a0_1 a0_2 a0_3 l0_4 = some r) :
 Calls Try.prog 8 #[.agg #[.int .i64 a0_0, .int .i64 a0_1, .int .i64 a0_2, .int .i64 a0_3, .slice A0_4 l0_4.length c0_4]] w fun e w' => e = .returned (.bool r) ∧ Below w.heap.size w w' := by
 have hu67 := Try.underlying67
 have hu72 := Try.underlying72
 have HR0_4 := Aside0.mk hr0_4; have HC0_4 := Aside0.mk hc0_4; clear hr0_4 hc0_4
 have HB := Aside0.mk (Below.refl w.heap.size w)
 have H : ((laws_szBlock.f k a0_0 a0_1 a0_2 a0_3 l0_4 1048576).bind fun t602 => (if t602 < 0 then (some true) else ((laws_toBlock.f k a0_0 a0_1 a0_2 a0_3 l0_4).bind fun bt603 => ((spec_BlockFault.f k bt603.1 bt603.2.1 bt603.2.2.1 bt603.2.2.2.1 bt603.2.2.2.2).bind fun t610 => ((laws_toBlock.f k a0_0 a0_1 a0_2 a0_3 l0_4).bind fun bt611 => ((impl_BlockFault.f k bt611.1 bt611.2.1 bt611.2.2.1 bt611.2.2.2.1 bt611.2.2.2.2).bind fun t619 => (if t619 = t610 then ((laws_toBlock.f k a0_0 a0_1 a0_2 a0_3 l0_4).bind fun bt620 => ((laws_eqBlock.f k bt611.1 bt611.2.1 bt611.2.2.1 bt611.2.2.2.1 bt611.2.2.2.2 bt620.1 bt620.2.1 bt620.2.2.1 bt620.2.2.2.1 bt620.2.2.2.2).bind fun t627 => (if t627 = true then (some true) else (none)))) else (none)))))))) = some r := h
 clear h
 obtain ⟨t602, A20, H⟩ := bO H
 replace H : (if t602 < 0 then (some true) else ((laws_toBlock.f k a0_0 a0_1 a0_2 a0_3 l0_4).bind fun bt603 => ((spec_BlockFault.f k bt603.1 bt603.2.1 bt603.2.2.1 bt603.2.2.2.1 bt603.2.2.2.2).bind fun t610 => ((laws_toBlock.f k a0_0 a0_1 a0_2 a0_3 l0_4).bind fun bt611 => ((impl_BlockFault.f k bt611.1 bt611.2.1 bt611.2.2.1 bt611.2.2.2.1 bt611.2.2.2.2).bind fun t619 => (if t619 = t610 then ((laws_toBlock.f k a0_0 a0_1 a0_2 a0_3 l0_4).bind fun bt620 => ((laws_eqBlock.f k bt611.1 bt611.2.1 bt611.2.2.1 bt611.2.2.2.1 bt611.2.2.2.2 bt620.1 bt620.2.1 bt620.2.2.1 bt620.2.2.2.1 bt620.2.2.2.2).bind fun t627 => (if t627 = true then (some true) else (none)))) else (none))))))) = some r := H
 have A2 := Aside0.mk A20; clear A20
 by_cases c3 : t602 < 0
 · rw [if_pos c3] at H
   have c3b0 : decide (t602 < 0) = true := decide_eq_true c3
   clear c3
   obtain rfl := Option.some.inj H
   go_enter Try.func8, Try.ntmps8
   go_wp2_with (first | ((with_reducible refine gate_dst (N := 1) rfl ?_); refine box_event ?hg (N := 1) ?hd (cs := #[.int .i64 a0_0, .int .i64 a0_1, .int .i64 a0_2, .int .i64 a0_3, .slice A0_4 l0_4.length c0_4]) (t := 67) ?hr ?_; (case hd => rfl); (case hg => rfl); (case hr => first | (go_simp; done) | (go_simp; rfl)); intro gb601 hg w4 hbox hb; have n_ := t4 (below_step pB hb) (hbox) ((by rw [hg]; exact (below_size pB) : w.heap.size ≤ gb601)) ((by rw [hg]; exact (below_size pB) : w.heap.size ≤ gb601)); clear HB; obtain ⟨HB, BK601, GW601, GE601⟩ := n_; clear hb hbox hg; have hcz5_0 : w4.cell? ⟨gb601, 0, none⟩ = some (.int .i64 a0_0) := (blk_cell BK601.out 0).trans rfl; have hcz5_1 : w4.cell? ⟨gb601, 1, none⟩ = some (.int .i64 a0_1) := (blk_cell BK601.out 1).trans rfl; have hcz5_2 : w4.cell? ⟨gb601, 2, none⟩ = some (.int .i64 a0_2) := (blk_cell BK601.out 2).trans rfl; have hcz5_3 : w4.cell? ⟨gb601, 3, none⟩ = some (.int .i64 a0_3) := (blk_cell BK601.out 3).trans rfl; have hcz5_4 : w4.cell? ⟨gb601, 4, none⟩ = some (.slice A0_4 l0_4.length c0_4) := (blk_cell BK601.out 4).trans rfl; have hfz5_0 := blk_frozen BK601.out 0; have hfz5_1 := blk_frozen BK601.out 1; have hfz5_2 := blk_frozen BK601.out 2; have hfz5_3 := blk_frozen BK601.out 3; have hfz5_4 := blk_frozen BK601.out 4) | ((with_reducible refine gate_callee (f := 43) rfl ?_); refine goesL_ (some 9) rfl rfl Try.func43 (by kernel_rfl) rfl #[.agg #[.int .i64 a0_0, .int .i64 a0_1, .int .i64 a0_2, .int .i64 a0_3, .slice A0_4 l0_4.length c0_4], .int .i64 1048576] rfl pA ?_; (with_reducible refine (laws_szBlock.calls k a0_0 a0_1 a0_2 a0_3 _ _ l0_4 1048576 t602 _ ?side1 ?side2 A2.out).mono ?_); (case side1 => exact pC (Kd.C_below HR0_4.out HB.out)); (case side2 => exact HC0_4.out); rintro e w6 ⟨rfl, hb⟩; refine ⟨_, rfl, ?_⟩; have n_ := t2 (blk_below (g := gb601) (o := .cells #[.int .i64 a0_0, .int .i64 a0_1, .int .i64 a0_2, .int .i64 a0_3, .slice A0_4 l0_4.length c0_4] 67 (0, 0)) (pK BK601) hb) (below_step pB hb); clear BK601 HB; obtain ⟨BK601, HB⟩ := n_; (try clear hb)))
   go_ret
   exact ⟨pE, pB⟩
 · rw [if_neg c3] at H
   have c3b0 : decide (t602 < 0) = false := decide_eq_false c3
   clear c3
   obtain ⟨⟨t603, t604, t605, t606, t607⟩, A70, H⟩ := bO H
   replace H : ((spec_BlockFault.f k t603 t604 t605 t606 t607).bind fun t610 => ((laws_toBlock.f k a0_0 a0_1 a0_2 a0_3 l0_4).bind fun bt611 => ((impl_BlockFault.f k bt611.1 bt611.2.1 bt611.2.2.1 bt611.2.2.2.1 bt611.2.2.2.2).bind fun t619 => (if t619 = t610 then ((laws_toBlock.f k a0_0 a0_1 a0_2 a0_3 l0_4).bind fun bt620 => ((laws_eqBlock.f k bt611.1 bt611.2.1 bt611.2.2.1 bt611.2.2.2.1 bt611.2.2.2.2 bt620.1 bt620.2.1 bt620.2.2.1 bt620.2.2.2.1 bt620.2.2.2.2).bind fun t627 => (if t627 = true then (some true) else (none)))) else (none))))) = some r := H
   have A7 := Aside0.mk A70; clear A70
   obtain ⟨t610, A80, H⟩ := bO H
   replace H : ((laws_toBlock.f k a0_0 a0_1 a0_2 a0_3 l0_4).bind fun bt611 => ((impl_BlockFault.f k bt611.1 bt611.2.1 bt611.2.2.1 bt611.2.2.2.1 bt611.2.2.2.2).bind fun t619 => (if t619 = t610 then ((laws_toBlock.f k a0_0 a0_1 a0_2 a0_3 l0_4).bind fun bt620 => ((laws_eqBlock.f k bt611.1 bt611.2.1 bt611.2.2.1 bt611.2.2.2.1 bt611.2.2.2.2 bt620.1 bt620.2.1 bt620.2.2.1 bt620.2.2.2.1 bt620.2.2.2.2).bind fun t627 => (if t627 = true then (some true) else (none)))) else (none)))) = some r := H
   have A8 := Aside0.mk A80; clear A80
   obtain ⟨⟨t611, t612, t613, t614, t615⟩, A90, H⟩ := bO H
   replace H : ((impl_BlockFault.f k t611 t612 t613 t614 t615).bind fun t619 => (if t619 = t610 then ((laws_toBlock.f k a0_0 a0_1 a0_2 a0_3 l0_4).bind fun bt620 => ((laws_eqBlock.f k t611 t612 t613 t614 t615 bt620.1 bt620.2.1 bt620.2.2.1 bt620.2.2.2.1 bt620.2.2.2.2).bind fun t627 => (if t627 = true then (some true) else (none)))) else (none))) = some r := H
   have A9 := Aside0.mk A90; clear A90
   obtain ⟨t619, A100, H⟩ := bO H
   replace H : (if t619 = t610 then ((laws_toBlock.f k a0_0 a0_1 a0_2 a0_3 l0_4).bind fun bt620 => ((laws_eqBlock.f k t611 t612 t613 t614 t615 bt620.1 bt620.2.1 bt620.2.2.1 bt620.2.2.2.1 bt620.2.2.2.2).bind fun t627 => (if t627 = true then (some true) else (none)))) else (none)) = some r := H
   have A10 := Aside0.mk A100; clear A100
   by_cases c11 : t619 = t610
   · rw [if_pos c11] at H
     have c11b0 : (t619 == t610) = true := beq_iff_eq.mpr c11
     have c11b1 : (t619 != t610) = false := bne_eq_false_iff_eq.mpr c11
     clear c11
     obtain ⟨⟨t620, t621, t622, t623, t624⟩, A120, H⟩ := bO H
     replace H : ((laws_eqBlock.f k t611 t612 t613 t614 t615 t620 t621 t622 t623 t624).bind fun t627 => (if t627 = true then (some true) else (none))) = some r := H
     have A12 := Aside0.mk A120; clear A120
     obtain ⟨t627, A130, H⟩ := bO H
     replace H : (if t627 = true then (some true) else (none)) = some r := H
     have A13 := Aside0.mk A130; clear A130
     by_cases c14 : t627 = true
     · subst c14
       have H1 : (some true) = some r := by rw [if_pos rfl] at H; exact H
       clear H; have H := H1; clear H1
       obtain rfl := Option.some.inj H
       go_enter Try.func8, Try.ntmps8
       try go_wp2_with (first | ((with_reducible refine gate_dst (N := 1) rfl ?_); refine box_event ?hg (N := 1) ?hd (cs := #[.int .i64 a0_0, .int .i64 a0_1, .int .i64 a0_2, .int .i64 a0_3, .slice A0_4 l0_4.length c0_4]) (t := 67) ?hr ?_; (case hd => rfl); (case hg => rfl); (case hr => first | (go_simp; done) | (go_simp; rfl)); intro gb601 hg w15 hbox hb; have n_ := t4 (below_step pB hb) (hbox) ((by rw [hg]; exact (below_size pB) : w.heap.size ≤ gb601)) ((by rw [hg]; exact (below_size pB) : w.heap.size ≤ gb601)); clear HB; obtain ⟨HB, BK601, GW601, GE601⟩ := n_; clear hb hbox hg; have hcz16_0 : w15.cell? ⟨gb601, 0, none⟩ = some (.int .i64 a0_0) := (blk_cell BK601.out 0).trans rfl; have hcz16_1 : w15.cell? ⟨gb601, 1, none⟩ = some (.int .i64 a0_1) := (blk_cell BK601.out 1).trans rfl; have hcz16_2 : w15.cell? ⟨gb601, 2, none⟩ = some (.int .i64 a0_2) := (blk_cell BK601.out 2).trans rfl; have hcz16_3 : w15.cell? ⟨gb601, 3, none⟩ = some (.int .i64 a0_3) := (blk_cell BK601.out 3).trans rfl; have hcz16_4 : w15.cell? ⟨gb601, 4, none⟩ = some (.slice A0_4 l0_4.length c0_4) := (blk_cell BK601.out 4).trans rfl; have hfz16_0 := blk_frozen BK601.out 0; have hfz16_1 := blk_frozen BK601.out 1; have hfz16_2 := blk_frozen BK601.out 2; have hfz16_3 := blk_frozen BK601.out 3; have hfz16_4 := blk_frozen BK601.out 4) | ((with_reducible refine gate_callee (f := 43) rfl ?_); refine goesL_ (some 9) rfl rfl Try.func43 (by kernel_rfl) rfl #[.agg #[.int .i64 a0_0, .int .i64 a0_1, .int .i64 a0_2, .int .i64 a0_3, .slice A0_4 l0_4.length c0_4], .int .i64 1048576] rfl pA ?_; (with_reducible refine (laws_szBlock.calls k a0_0 a0_1 a0_2 a0_3 _ _ l0_4 1048576 t602 _ ?side1 ?side2 A2.out).mono ?_); (case side1 => exact pC (Kd.C_below HR0_4.out HB.out)); (case side2 => exact HC0_4.out); rintro e w17 ⟨rfl, hb⟩; refine ⟨_, rfl, ?_⟩; have n_ := t2 (blk_below (g := gb601) (o := .cells #[.int .i64 a0_0, .int .i64 a0_1, .int .i64 a0_2, .int .i64 a0_3, .slice A0_4 l0_4.length c0_4] 67 (0, 0)) (pK BK601) hb) (below_step pB hb); clear BK601 HB; obtain ⟨BK601, HB⟩ := n_; (try clear hb); have hcz18_0 : w17.cell? ⟨gb601, 0, none⟩ = some (.int .i64 a0_0) := (blk_cell BK601.out 0).trans rfl; have hcz18_1 : w17.cell? ⟨gb601, 1, none⟩ = some (.int .i64 a0_1) := (blk_cell BK601.out 1).trans rfl; have hcz18_2 : w17.cell? ⟨gb601, 2, none⟩ = some (.int .i64 a0_2) := (blk_cell BK601.out 2).trans rfl; have hcz18_3 : w17.cell? ⟨gb601, 3, none⟩ = some (.int .i64 a0_3) := (blk_cell BK601.out 3).trans rfl; have hcz18_4 : w17.cell? ⟨gb601, 4, none⟩ = some (.slice A0_4 l0_4.length c0_4) := (blk_cell BK601.out 4).trans rfl; have hfz18_0 := blk_frozen BK601.out 0; have hfz18_1 := blk_frozen BK601.out 1; have hfz18_2 := blk_frozen BK601.out 2; have hfz18_3 := blk_frozen BK601.out 3; have hfz18_4 := blk_frozen BK601.out 4) | ((with_reducible refine gate_callee (f := 45) rfl ?_); refine goesL_ (some 13) rfl rfl Try.func45 (by kernel_rfl) rfl #[.agg #[.int .i64 a0_0, .int .i64 a0_1, .int .i64 a0_2, .int .i64 a0_3, .slice A0_4 l0_4.length c0_4]] rfl pA ?_; (with_reducible refine (laws_toBlock.calls k a0_0 a0_1 a0_2 a0_3 _ _ l0_4 t603 t604 t605 t606 t607 _ ?side1 ?side2 A7.out).mono ?_); (case side1 => exact pC (Kd.C_below HR0_4.out HB.out)); (case side2 => exact HC0_4.out); rintro e w19 ⟨v608, rfl, ho0, hb⟩; refine ⟨_, rfl, ?_⟩; have n_ := t3 (Kd.R_lower ho0 (below_size pB)) (blk_below (g := gb601) (o := .cells #[.int .i64 a0_0, .int .i64 a0_1, .int .i64 a0_2, .int .i64 a0_3, .slice A0_4 l0_4.length c0_4] 67 (0, 0)) (pK BK601) hb) (below_step pB hb); clear BK601 HB; obtain ⟨HO609, BK601, HB⟩ := n_; (try clear hb); (try clear ho0); obtain ⟨Ao20, co20, eo20⟩ := Kd.R_slice HO609.out; subst eo20) | ((with_reducible refine gate_callee (f := 44) rfl ?_); refine goesL_ (some 14) rfl rfl Try.func44 (by kernel_rfl) rfl #[.agg #[.int .i64 t603, .int .i64 t604, .int .i64 t605, .int .i64 t606, .slice Ao20 t607.length co20]] rfl pA ?_; (with_reducible refine (spec_BlockFault.calls k t603 t604 t605 t606 _ _ t607 t610 _ ?side1 ?side2 A8.out).mono ?_); (case side1 => exact pC (Kd.R_reads' HO609.out).2.2); (case side2 => exact (Kd.R_reads' HO609.out).2.1); rintro e w21 ⟨rfl, hb⟩; refine ⟨_, rfl, ?_⟩; have n_ := t3 (Kd.R_below (pR HO609) hb) (blk_below (g := gb601) (o := .cells #[.int .i64 a0_0, .int .i64 a0_1, .int .i64 a0_2, .int .i64 a0_3, .slice A0_4 l0_4.length c0_4] 67 (0, 0)) (pK BK601) hb) (below_step pB hb); clear HO609 BK601 HB; obtain ⟨HO609, BK601, HB⟩ := n_; (try clear hb); have hcz22_0 : w21.cell? ⟨gb601, 0, none⟩ = some (.int .i64 a0_0) := (blk_cell BK601.out 0).trans rfl; have hcz22_1 : w21.cell? ⟨gb601, 1, none⟩ = some (.int .i64 a0_1) := (blk_cell BK601.out 1).trans rfl; have hcz22_2 : w21.cell? ⟨gb601, 2, none⟩ = some (.int .i64 a0_2) := (blk_cell BK601.out 2).trans rfl; have hcz22_3 : w21.cell? ⟨gb601, 3, none⟩ = some (.int .i64 a0_3) := (blk_cell BK601.out 3).trans rfl; have hcz22_4 : w21.cell? ⟨gb601, 4, none⟩ = some (.slice A0_4 l0_4.length c0_4) := (blk_cell BK601.out 4).trans rfl; have hfz22_0 := blk_frozen BK601.out 0; have hfz22_1 := blk_frozen BK601.out 1; have hfz22_2 := blk_frozen BK601.out 2; have hfz22_3 := blk_frozen BK601.out 3; have hfz22_4 := blk_frozen BK601.out 4) | ((with_reducible refine gate_callee (f := 45) rfl ?_); refine goesL_ (some 16) rfl rfl Try.func45 (by kernel_rfl) rfl #[.agg #[.int .i64 a0_0, .int .i64 a0_1, .int .i64 a0_2, .int .i64 a0_3, .slice A0_4 l0_4.length c0_4]] rfl pA ?_; (with_reducible refine (laws_toBlock.calls k a0_0 a0_1 a0_2 a0_3 _ _ l0_4 t611 t612 t613 t614 t615 _ ?side1 ?side2 A9.out).mono ?_); (case side1 => exact pC (Kd.C_below HR0_4.out HB.out)); (case side2 => exact HC0_4.out); rintro e w23 ⟨v616, rfl, ho0, hb⟩; refine ⟨_, rfl, ?_⟩; have n_ := t4 (Kd.R_elder' (pR HO609) (Kd.R_base ho0) hb) (Kd.R_lower (Kd.R_new' ho0 (Kd.R_lt (pR HO609))) (below_size pB)) (blk_below (g := gb601) (o := .cells #[.int .i64 a0_0, .int .i64 a0_1, .int .i64 a0_2, .int .i64 a0_3, .slice A0_4 l0_4.length c0_4] 67 (0, 0)) (pK BK601) hb) (below_step pB hb); clear HO609 BK601 HB; obtain ⟨HO609, HO617, BK601, HB⟩ := n_; (try clear hb); (try clear ho0)) | ((with_reducible refine gate_dst (N := 5) rfl ?_); refine box_event ?hg (N := 5) ?hd (cs := #[.int .i64 0, .int .i64 0, .int .i64 0, .int .i64 0, .slice none 0 0]) (t := 72) ?hr ?_; (case hd => rfl); (case hg => rfl); (case hr => first | (go_simp; done) | (go_simp; rfl)); intro gb618 hg w24 hbox hb; have n0_ := Aside0.mk (Kd.R_below (pR HO609) hb); have n1_ := Aside0.mk (Kd.R_below (pR HO617) hb); have n2_ := Aside0.mk (blk_below (g := gb601) (o := .cells #[.int .i64 a0_0, .int .i64 a0_1, .int .i64 a0_2, .int .i64 a0_3, .slice A0_4 l0_4.length c0_4] 67 (0, 0)) (pK BK601) hb); have n3_ := Aside0.mk (below_step pB hb); have n4_ := Aside0.mk (hbox); have n5_ := Aside0.mk ((by rw [hg]; exact (below_size pB) : w.heap.size ≤ gb618)); have n6_ := Aside0.mk ((by rw [hg]; exact (below_size pB) : w.heap.size ≤ gb618)); have n7_ := Aside0.mk ((by rw [hg]; exact Nat.ne_of_lt (blk_lt (g := gb601) (o := .cells #[.int .i64 a0_0, .int .i64 a0_1, .int .i64 a0_2, .int .i64 a0_3, .slice A0_4 l0_4.length c0_4] 67 (0, 0)) (pK BK601)) : gb601 ≠ gb618)); have n8_ := Aside0.mk ((by rw [hg]; exact Nat.ne_of_gt (blk_lt (g := gb601) (o := .cells #[.int .i64 a0_0, .int .i64 a0_1, .int .i64 a0_2, .int .i64 a0_3, .slice A0_4 l0_4.length c0_4] 67 (0, 0)) (pK BK601)) : gb618 ≠ gb601)); clear HO609; clear HO617; clear BK601; clear HB; have HO609 := n0_; have HO617 := n1_; have BK601 := n2_; have HB := n3_; have BK618 := n4_; have GW618 := n5_; have GE618 := n6_; have NB601_618 := n7_; have NB618_601 := n8_; clear n0_ n1_ n2_ n3_ n4_ n5_ n6_ n7_ n8_; clear hb hbox hg; have hnb25 := NB618_601.out; have hnc25 := NB601_618.out; have hcz26_0 : w24.cell? ⟨gb618, 0, none⟩ = some (.int .i64 0) := (blk_cell BK618.out 0).trans rfl; have hcz26_1 : w24.cell? ⟨gb618, 1, none⟩ = some (.int .i64 0) := (blk_cell BK618.out 1).trans rfl; have hcz26_2 : w24.cell? ⟨gb618, 2, none⟩ = some (.int .i64 0) := (blk_cell BK618.out 2).trans rfl; have hcz26_3 : w24.cell? ⟨gb618, 3, none⟩ = some (.int .i64 0) := (blk_cell BK618.out 3).trans rfl; have hcz26_4 : w24.cell? ⟨gb618, 4, none⟩ = some (.slice none 0 0) := (blk_cell BK618.out 4).trans rfl; have hfz26_0 := blk_frozen BK618.out 0; have hfz26_1 := blk_frozen BK618.out 1; have hfz26_2 := blk_frozen BK618.out 2; have hfz26_3 := blk_frozen BK618.out 3; have hfz26_4 := blk_frozen BK618.out 4; obtain ⟨Ao27, co27, eo27⟩ := Kd.R_slice HO617.out; subst eo27) | ((with_reducible refine gate_callee (f := 46) rfl ?_); refine goesL_ (some 18) rfl rfl Try.func46 (by kernel_rfl) rfl #[.agg #[.int .i64 t611, .int .i64 t612, .int .i64 t613, .int .i64 t614, .slice Ao27 t615.length co27]] rfl pA ?_; (with_reducible refine (impl_BlockFault.calls k t611 t612 t613 t614 _ _ t615 t619 _ ?side1 ?side2 A10.out).mono ?_); (case side1 => refine (Kd.R_reads' (e := 27) (base := w.heap.size) (ok := fun k_ => (True ∧ some k_ ≠ (.slice Ao20 t607.length co20 : Value).ownBlock)) (n := t615.length) (c := co27) ?_).2.2; exact (pT (Kd.R_mono (Kd.R_far (p := ⟨gb618, 4, none⟩) (Kd.R_far (p := ⟨gb618, 3, none⟩) (Kd.R_far (p := ⟨gb618, 2, none⟩) (Kd.R_far (p := ⟨gb618, 1, none⟩) (Kd.R_far (p := ⟨gb618, 0, none⟩) (Kd.R_types HO617.out BK618.out (by decide)) (fun _ hk => hk.2) (.int .i64 t611)) (fun _ hk => hk.2) (.int .i64 t612)) (fun _ hk => hk.2) (.int .i64 t613)) (fun _ hk => hk.2) (.int .i64 t614)) (fun _ hk => hk.2) (.slice Ao27 t615.length co27)) (fun _ h_ => h_.1)))); (case side2 => exact (Kd.R_reads' HO617.out).2.1); rintro e w28 ⟨rfl, hb⟩; refine ⟨_, rfl, ?_⟩; have n_ := t5 (Kd.R_below (pT (Kd.R_mono (Kd.R_far (p := ⟨gb618, 4, none⟩) (Kd.R_far (p := ⟨gb618, 3, none⟩) (Kd.R_far (p := ⟨gb618, 2, none⟩) (Kd.R_far (p := ⟨gb618, 1, none⟩) (Kd.R_far (p := ⟨gb618, 0, none⟩) (Kd.R_types HO609.out BK618.out (by decide)) (fun _ hk => hk.2) (.int .i64 t611)) (fun _ hk => hk.2) (.int .i64 t612)) (fun _ hk => hk.2) (.int .i64 t613)) (fun _ hk => hk.2) (.int .i64 t614)) (fun _ hk => hk.2) (.slice Ao27 t615.length co27)) (fun _ h_ => h_.1))) hb) (Kd.R_below (pT (Kd.R_mono (Kd.R_far (p := ⟨gb618, 4, none⟩) (Kd.R_far (p := ⟨gb618, 3, none⟩) (Kd.R_far (p := ⟨gb618, 2, none⟩) (Kd.R_far (p := ⟨gb618, 1, none⟩) (Kd.R_far (p := ⟨gb618, 0, none⟩) (Kd.R_types HO617.out BK618.out (by decide)) (fun _ hk => hk.2) (.int .i64 t611)) (fun _ hk => hk.2) (.int .i64 t612)) (fun _ hk => hk.2) (.int .i64 t613)) (fun _ hk => hk.2) (.int .i64 t614)) (fun _ hk => hk.2) (.slice Ao27 t615.length co27)) (fun _ h_ => h_.1))) hb) (blk_below (g := gb601) (o := .cells #[.int .i64 a0_0, .int .i64 a0_1, .int .i64 a0_2, .int .i64 a0_3, .slice A0_4 l0_4.length c0_4] 67 (0, 0)) (by (with_reducible repeat (first | refine blk_drewN ?_ _ | refine blk_drew ?_ | refine blk_alloc ?_ _)); refine blk_far ?_ NB601_618.out _; (with_reducible repeat (first | refine blk_drewN ?_ _ | refine blk_drew ?_ | refine blk_alloc ?_ _)); refine blk_far ?_ NB601_618.out _; (with_reducible repeat (first | refine blk_drewN ?_ _ | refine blk_drew ?_ | refine blk_alloc ?_ _)); refine blk_far ?_ NB601_618.out _; (with_reducible repeat (first | refine blk_drewN ?_ _ | refine blk_drew ?_ | refine blk_alloc ?_ _)); refine blk_far ?_ NB601_618.out _; (with_reducible repeat (first | refine blk_drewN ?_ _ | refine blk_drew ?_ | refine blk_alloc ?_ _)); refine blk_far ?_ NB601_618.out _; (with_reducible repeat (first | refine blk_drewN ?_ _ | refine blk_drew ?_ | refine blk_alloc ?_ _)); exact BK601.out) hb) (blk_below (g := gb618) (o := .cells #[.int .i64 t611, .int .i64 t612, .int .i64 t613, .int .i64 t614, .slice Ao27 t615.length co27] 72 (0, 0)) (by (with_reducible repeat (first | refine blk_drewN ?_ _ | refine blk_drew ?_ | refine blk_alloc ?_ _)); refine blk_put (cs := #[.int .i64 t611, .int .i64 t612, .int .i64 t613, .int .i64 t614, .slice none 0 0]) ?_ 4 _ rfl; (with_reducible repeat (first | refine blk_drewN ?_ _ | refine blk_drew ?_ | refine blk_alloc ?_ _)); refine blk_put (cs := #[.int .i64 t611, .int .i64 t612, .int .i64 t613, .int .i64 0, .slice none 0 0]) ?_ 3 _ rfl; (with_reducible repeat (first | refine blk_drewN ?_ _ | refine blk_drew ?_ | refine blk_alloc ?_ _)); refine blk_put (cs := #[.int .i64 t611, .int .i64 t612, .int .i64 0, .int .i64 0, .slice none 0 0]) ?_ 2 _ rfl; (with_reducible repeat (first | refine blk_drewN ?_ _ | refine blk_drew ?_ | refine blk_alloc ?_ _)); refine blk_put (cs := #[.int .i64 t611, .int .i64 0, .int .i64 0, .int .i64 0, .slice none 0 0]) ?_ 1 _ rfl; (with_reducible repeat (first | refine blk_drewN ?_ _ | refine blk_drew ?_ | refine blk_alloc ?_ _)); refine blk_put (cs := #[.int .i64 0, .int .i64 0, .int .i64 0, .int .i64 0, .slice none 0 0]) ?_ 0 _ rfl; (with_reducible repeat (first | refine blk_drewN ?_ _ | refine blk_drew ?_ | refine blk_alloc ?_ _)); exact BK618.out) hb) (below_step pB hb); clear HO609 HO617 BK601 BK618 HB; obtain ⟨HO609, HO617, BK601, BK618, HB⟩ := n_; (try clear hb); (try clear hk)))
       have n_ := t5 (Kd.R_drew HO609.out) (Kd.R_drew HO617.out) (blk_drew BK601.out) (blk_drew BK618.out) (below_drew1 HB.out)
       clear HO609 HO617 BK601 BK618 HB; obtain ⟨HO609, HO617, BK601, BK618, HB⟩ := n_
       refine start_ (n := 5) (S := fun w' => w'.cell? ⟨gb618, 0, none⟩ = some (.int .i64 t611) ∧ w'.cell? ⟨gb618, 1, none⟩ = some (.int .i64 t612) ∧ w'.cell? ⟨gb618, 2, none⟩ = some (.int .i64 t613) ∧ w'.cell? ⟨gb618, 3, none⟩ = some (.int .i64 t614) ∧ w'.cell? ⟨gb618, 4, none⟩ = some (.slice Ao27 t615.length co27) ∧ w'.cell? ⟨gb601, 0, none⟩ = some (.int .i64 a0_0) ∧ w'.cell? ⟨gb601, 1, none⟩ = some (.int .i64 a0_1) ∧ w'.cell? ⟨gb601, 2, none⟩ = some (.int .i64 a0_2) ∧ w'.cell? ⟨gb601, 3, none⟩ = some (.int .i64 a0_3) ∧ w'.cell? ⟨gb601, 4, none⟩ = some (.slice A0_4 l0_4.length c0_4)) (ds := []) #[false, false, false, false, false] (by kernel_rfl) rfl rfl ⟨(blk_cell BK618.out 0).trans rfl, (blk_cell BK618.out 1).trans rfl, (blk_cell BK618.out 2).trans rfl, (blk_cell BK618.out 3).trans rfl, (blk_cell BK618.out 4).trans rfl, (blk_cell BK601.out 0).trans rfl, (blk_cell BK601.out 1).trans rfl, (blk_cell BK601.out 2).trans rfl, (blk_cell BK601.out 3).trans rfl, (blk_cell BK601.out 4).trans rfl⟩ (fun hHeld => ?_)
       generalize w28.drew = w29 at HO609 HO617 BK601 BK618 HB hHeld ⊢
       refine rT 0 (some 22) #[true, false, false, false, false] (by kernel_rfl) hHeld ?_
       refine rT 1 (some 23) #[true, true, false, false, false] (by kernel_rfl) hHeld ?_
       refine one_ (i := 2) (N := some 24) #[true, true, true, false, false] rfl rfl (by kernel_rfl) (by decide) (fun K hK => ?_)
       refine goes_ Try.func45 (by kernel_rfl) rfl #[.agg #[.int .i64 a0_0, .int .i64 a0_1, .int .i64 a0_2, .int .i64 a0_3, .slice A0_4 l0_4.length c0_4]] (by rfl) rfl rfl pA ?_
       with_reducible refine (laws_toBlock.calls k a0_0 a0_1 a0_2 a0_3 _ _ l0_4 t620 t621 t622 t623 t624 _ ?side1 ?side2 A12.out).mono ?_
       (case side1 => exact pC (Kd.C_below HR0_4.out HB.out))
       (case side2 => exact HC0_4.out)
       rintro e w30 ⟨v625, rfl, ho0, hb⟩
       refine ⟨_, rfl, ?_⟩
       have n_ := t6 (Kd.R_elder' (pR HO609) (Kd.R_base ho0) hb) (Kd.R_elder' (pR HO617) (Kd.R_base ho0) hb) (Kd.R_lower (Kd.R_new' (Kd.R_new' ho0 (Kd.R_lt (pR HO609))) (Kd.R_lt (pR HO617))) (below_size pB)) (blk_below (g := gb601) (o := .cells #[.int .i64 a0_0, .int .i64 a0_1, .int .i64 a0_2, .int .i64 a0_3, .slice A0_4 l0_4.length c0_4] 67 (0, 0)) (pK BK601) hb) (blk_below (g := gb618) (o := .cells #[.int .i64 t611, .int .i64 t612, .int .i64 t613, .int .i64 t614, .slice Ao27 t615.length co27] 72 (0, 0)) (pK BK618) hb) (below_step pB hb)
       clear HO609 HO617 BK601 BK618 HB; obtain ⟨HO609, HO617, HO626, BK601, BK618, HB⟩ := n_; (try clear hb); (try clear hb2); (try clear hk); (try clear hi); (try clear ho0)
       obtain ⟨Ao31, co31, eo31⟩ := Kd.R_slice HO626.out
       (first | subst eo31 | (injection eo31 with f1_ f2_ f3_; have f4_ := f1_.symm; have f5_ := f3_.symm; clear f1_ f2_ f3_; subst f4_; subst f5_))
       refine hK.out _ _ ⟨(blk_cell BK618.out 0).trans rfl, (blk_cell BK618.out 1).trans rfl, (blk_cell BK618.out 2).trans rfl, (blk_cell BK618.out 3).trans rfl, (blk_cell BK618.out 4).trans rfl, (blk_cell BK601.out 0).trans rfl, (blk_cell BK601.out 1).trans rfl, (blk_cell BK601.out 2).trans rfl, (blk_cell BK601.out 3).trans rfl, (blk_cell BK601.out 4).trans rfl⟩ (fun hHeld => ?_)
       clear hK K
       refine rN ?_
       refine one_ (i := 3) (N := some 25) #[true, true, true, true, false] rfl rfl (by kernel_rfl) (by decide) (fun K hK => ?_)
       refine goes_ Try.func47 (by kernel_rfl) rfl #[.agg #[.int .i64 t611, .int .i64 t612, .int .i64 t613, .int .i64 t614, .slice Ao27 t615.length co27], .agg #[.int .i64 t620, .int .i64 t621, .int .i64 t622, .int .i64 t623, .slice Ao31 t624.length co31]] (by rfl) rfl rfl pA ?_
       with_reducible refine (laws_eqBlock.calls k t611 t612 t613 t614 _ _ t615 t620 t621 t622 t623 _ _ t624 true _ ?side1 ?side2 ?side3 ?side4 A13.out).mono ?_
       (case side1 => exact pC (Kd.R_reads' HO617.out).2.2)
       (case side2 => exact (Kd.R_reads' HO617.out).2.1)
       (case side3 => exact pC (Kd.R_reads' HO626.out).2.2)
       (case side4 => exact (Kd.R_reads' HO626.out).2.1)
       rintro e w32 ⟨rfl, hb⟩
       refine ⟨_, rfl, ?_⟩
       have n_ := t6 (Kd.R_below (pR HO609) hb) (Kd.R_below (pR HO617) hb) (Kd.R_below (pR HO626) hb) (blk_below (g := gb601) (o := .cells #[.int .i64 a0_0, .int .i64 a0_1, .int .i64 a0_2, .int .i64 a0_3, .slice A0_4 l0_4.length c0_4] 67 (0, 0)) (pK BK601) hb) (blk_below (g := gb618) (o := .cells #[.int .i64 t611, .int .i64 t612, .int .i64 t613, .int .i64 t614, .slice Ao27 t615.length co27] 72 (0, 0)) (pK BK618) hb) (below_step pB hb)
       clear HO609 HO617 HO626 BK601 BK618 HB; obtain ⟨HO609, HO617, HO626, BK601, BK618, HB⟩ := n_; (try clear hb); (try clear hb2); (try clear hk); (try clear hi)
       refine hK.out _ _ ⟨(blk_cell BK618.out 0).trans rfl, (blk_cell BK618.out 1).trans rfl, (blk_cell BK618.out 2).trans rfl, (blk_cell BK618.out 3).trans rfl, (blk_cell BK618.out 4).trans rfl, (blk_cell BK601.out 0).trans rfl, (blk_cell BK601.out 1).trans rfl, (blk_cell BK601.out 2).trans rfl, (blk_cell BK601.out 3).trans rfl, (blk_cell BK601.out 4).trans rfl⟩ (fun hHeld => ?_)
       clear hK K
       refine rN ?_
       refine rP 4 (some 26) #[true, true, true, true, true] (by kernel_rfl) ?_
       refine done_ (by kernel_rfl) ?_
       try go_wp2
       go_ret
       exact ⟨pE, pB⟩
     · replace c14 := Bool.eq_false_iff.mpr c14
       subst c14
       have H1 : (none) = some r := by rw [if_neg (show ¬ (false = true) by decide)] at H; exact H
       clear H; have H := H1; clear H1
       exact absurd H (by simp)
   · rw [if_neg c11] at H
     exact absurd H (by simp)
end Go.Proofs.Ythjlbpgiaehjnaa.QFnExactBlockFault
