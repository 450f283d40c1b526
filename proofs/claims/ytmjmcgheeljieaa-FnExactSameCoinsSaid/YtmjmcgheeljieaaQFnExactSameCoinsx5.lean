-- written by this session's program (wip/tools/myprint.py)
import Derived.Test.YtmjmcgheeljieaaQFnExactSameCoinsx0
import Derived.Test.YtmjmcgheeljieaaQFnExactSameCoinsx1
import Derived.Test.YtmjmcgheeljieaaQFnExactSameCoinsx3
import Derived.Test.YtmjmcgheeljieaaQFnExactSameCoinsx4
-- squeezed
namespace Go.Proofs.Ytmjmcgheeljieaa.QFnExactSameCoins
open Go.RowKit Go.Proofs.YtmjmcgheeljieaaW.PrintWords Go.Proofs.YtmjmcgheeljieaaW.PrintLast Go.Proofs.YtmjmcgheeljieaaW.PrintMore
attribute [local go_sem] max2_int min2_int max_two min_two max_three min_three max_four min_four   -- for this text's walks alone
set_option linter.unusedVariables false
set_option linter.unusedSimpArgs false
set_option maxHeartbeats 8000000
set_option maxRecDepth 100000
def laws_eqCoinS.l0 : Nat → List (S89) → List (S89) → Int → Option (Bool)
 | 0, _, _, _ => none
 | k + 1, x0, x1, x5 => if x5 < (x0.length : Int) then (if 0 ≤ x5 then (if x5 < (x1.length : Int) then ((laws_eqCoin.f k ((rd_T89 x0 x5).f0) ((rd_T89 x0 x5).f1) ((rd_T89 x0 x5).f2) ((rd_T89 x0 x5).f3) ((rd_T89 x0 x5).f4) ((rd_T89 x0 x5).f5) ((rd_T89 x1 x5).f0) ((rd_T89 x1 x5).f1) ((rd_T89 x1 x5).f2) ((rd_T89 x1 x5).f3) ((rd_T89 x1 x5).f4) ((rd_T89 x1 x5).f5)).bind fun t155 => (if t155 = true then (laws_eqCoinS.l0 k x0 x1 (wrap64 (x5 + 1))) else (some false))) else (none)) else (none)) else (some true)
def laws_eqCoinS.f (k : Nat) (l0 : List (S89)) (l1 : List (S89)) : Option (Bool) := if (l0.length : Int) = (l1.length : Int) then (laws_eqCoinS.l0 k l0 l1 0) else (some false)
theorem laws_eqCoinS.mono_l : ∀ k, (∀ y0 y1 y2, LeO (laws_eqCoinS.l0 k y0 y1 y2) (laws_eqCoinS.l0 (k + 1) y0 y1 y2))
 | 0 => fun _ _ _ r h => by simp [laws_eqCoinS.l0] at h
 | k + 1 => by
  have ih0 := laws_eqCoinS.mono_l k
  · intro y0 y1 y2
    unfold laws_eqCoinS.l0
    repeat' with_reducible first | exact ih0 _ _ _ | exact laws_eqCoin.mono _ _ _ _ _ _ _ _ _ _ _ _ _ | exact LeO.refl _ | exact LeO.none _ | refine LeO.ite ?_ ?_ | refine LeO.bind ?_ (fun _ => ?_)
theorem laws_eqCoinS.mono : ∀ a0 a1 k, LeO (laws_eqCoinS.f k a0 a1) (laws_eqCoinS.f (k + 1) a0 a1) := by
 intro a0 a1 k
 have ih0 := laws_eqCoinS.mono_l k
 unfold laws_eqCoinS.f
 repeat' with_reducible first | exact ih0 _ _ _ | exact laws_eqCoin.mono _ _ _ _ _ _ _ _ _ _ _ _ _ | exact LeO.refl _ | exact LeO.none _ | refine LeO.ite ?_ ?_ | refine LeO.bind ?_ (fun _ => ?_)
def laws_eqCoinS.T6 : Bool × List (List Nat × List Nat) := (true, [([], []), ([], []), ([0, 1], [0, 1]), ([2], [2]), ([], []), ([], []), ([4, 5], [4, 5]), ([6], [6]), ([3, 7], [3, 7]), ([8], [8])])
def laws_eqCoinS.B6 : List Nat := [0, 0, 3, 7, 0, 0, 48, 112, 255, 511]
theorem laws_eqCoinS.tab6 : rtab .any (opsOf Try.f54 6) = laws_eqCoinS.T6 := by kernel_rfl
theorem laws_eqCoinS.bits6 : waitsOk laws_eqCoinS.T6.2 laws_eqCoinS.B6 = true := by kernel_rfl
theorem laws_eqCoinS.calls (k : Nat) (A0 : Option Addr) (c0 : Nat) (l0 : List (S89)) (A1 : Option Addr) (c1 : Nat) (l1 : List (S89)) (r : Bool) (w : World) (hr0 : Kd.C k89 w A0 l0.length l0) (hc0 : l0.length ≤ c0) (hr1 : Kd.C k89 w A1 l1.length l1) (hc1 : l1.length ≤ c1) (h : laws_eqCoinS.f k l0 l1 = some r) :
 Calls Try.prog 54 #[.slice A0 l0.length c0, .slice A1 l1.length c1] w fun e w' => e = .returned (.bool r) ∧ Below w.heap.size w w' := by
 have hu89 := Try.underlying89
 have HR0 := am hr0; have HC0 := am hc0; clear hr0 hc0; have HR1 := am hr1; have HC1 := am hc1; clear hr1 hc1
 have HB := am (Below.refl w.heap.size w)
 have H : (if (l0.length : Int) = (l1.length : Int) then (laws_eqCoinS.l0 k l0 l1 0) else (some false)) = some r := h
 clear h
 by_cases c3 : (l0.length : Int) = (l1.length : Int)
 · rw [if_pos c3] at H
   have c3b0 : ((l0.length : Int) == (l1.length : Int)) = true := beq_iff_eq.mpr c3
   have c3b1 : ((l0.length : Int) != (l1.length : Int)) = false := bne_eq_false_iff_eq.mpr c3
   have c3b2 : (l0.length == l1.length) = true := by first | simpa using c3 | (simp at c3 ⊢; omega)
   clear c3
   have H' := am H
   clear H
   go_enter Try.func54, Try.ntmps54
   go_wp2
   go_loopg [5] k (fun kq v5 w' => ∃ (x5_1 : Int), v5 = .int .i64 x5_1 ∧ Aside0 (laws_eqCoinS.l0 kq l0 l1 x5_1 = some r) ∧ Aside0 (kq ≤ k) ∧ Aside0 (Below w.heap.size w w'))
   case atStart => exact ⟨(0), pF, H', ⟨Nat.le_refl _⟩, ⟨pB⟩⟩
   case round =>
    clear H'
    (try clear c1); (try clear c3); (try clear c3b0); (try clear c3b1); (try clear c3b2)
    obtain ⟨x5_1, rfl, HA, HK1, HB⟩ := hrel
    cases gk with
    | zero => exact absurd HA.out (by simp [laws_eqCoinS.l0])
    | succ k1 =>
     have H := HA.out
     clear HA
     simp only [laws_eqCoinS.l0] at H
     by_cases c4 : x5_1 < (l0.length : Int)
     · rw [if_pos c4] at H
       have c4b0 : decide (x5_1 < (l0.length : Int)) = true := dt c4
       clear c4
       by_cases c5 : 0 ≤ x5_1
       · rw [if_pos c5] at H
         have c5b0 : decide (0 ≤ x5_1) = true := dt c5
         clear c5
         by_cases c6 : x5_1 < (l1.length : Int)
         · rw [if_pos c6] at H
           have c6b0 : decide (x5_1 < (l1.length : Int)) = true := dt c6
           clear c6
           obtain ⟨t155, A70, H⟩ := bO H
           replace H : (if t155 = true then (laws_eqCoinS.l0 k1 l0 l1 (wrap64 (x5_1 + 1))) else (some false)) = some r := H
           have A7 := am A70; clear A70
           by_cases c8 : t155 = true
           · subst c8
             have H1 : (laws_eqCoinS.l0 k1 l0 l1 (wrap64 (x5_1 + 1))) = some r := by rw [if_pos rfl] at H; exact H
             clear H; have H := H1; clear H1
             have H' := am H
             clear H
             try go_wp2
             have n_ := am (below_drew1 HB.out)
             clear HB; have HB := n_; clear n_
             have p153 : 0 ≤ (x5_1 : Int) := pD
             have q153 : x5_1 < (l0.length : Int) := pD
             obtain ⟨ad153, A153_3, c153_3, e153, hx153_0, hx153_1, hx153_2, hx153_3, hx153_4, hx153_5, hl153_3, hi153_3⟩ := at_T89 HR0.out x5_1 p153 q153
             have hw153_5 := hx153_5
             have hw153_4 := hx153_4
             have hw153_3 := hx153_3
             have hw153_2 := hx153_2
             have hw153_1 := hx153_1
             have hw153_0 := hx153_0
             cases e153; replace hx153_0 := cb HB hx153_0; replace hx153_1 := cb HB hx153_1; replace hx153_2 := cb HB hx153_2; replace hx153_3 := cb HB hx153_3; replace hx153_4 := cb HB hx153_4; replace hx153_5 := cb HB hx153_5; have HR153_3 := am hi153_3; have HC153_3 := am hl153_3; clear hi153_3 hl153_3; replace p153 := eq_true p153; replace q153 := eq_true q153
             have p154 : 0 ≤ (x5_1 : Int) := pD
             have q154 : x5_1 < (l1.length : Int) := pD
             obtain ⟨ad154, A154_3, c154_3, e154, hx154_0, hx154_1, hx154_2, hx154_3, hx154_4, hx154_5, hl154_3, hi154_3⟩ := at_T89 HR1.out x5_1 p154 q154
             have hw154_5 := hx154_5
             have hw154_4 := hx154_4
             have hw154_3 := hx154_3
             have hw154_2 := hx154_2
             have hw154_1 := hx154_1
             have hw154_0 := hx154_0
             cases e154; replace hx154_0 := cb HB hx154_0; replace hx154_1 := cb HB hx154_1; replace hx154_2 := cb HB hx154_2; replace hx154_3 := cb HB hx154_3; replace hx154_4 := cb HB hx154_4; replace hx154_5 := cb HB hx154_5; have HR154_3 := am hi154_3; have HC154_3 := am hl154_3; clear hi154_3 hl154_3; replace p154 := eq_true p154; replace q154 := eq_true q154
             refine start_ (n := 10) (S := fun w' => w'.cell? (ad153.add ((x5_1).toNat * 6)) = some (.int .i64 ((rd_T89 l0 x5_1).f0)) ∧ w'.cell? ⟨(ad153.add ((x5_1).toNat * 6)).block, (ad153.add ((x5_1).toNat * 6)).off + 1, none⟩ = some (.int .i64 ((rd_T89 l0 x5_1).f1)) ∧ w'.cell? ⟨(ad153.add ((x5_1).toNat * 6)).block, (ad153.add ((x5_1).toNat * 6)).off + 2, none⟩ = some (.int .i64 ((rd_T89 l0 x5_1).f2)) ∧ w'.cell? ⟨(ad153.add ((x5_1).toNat * 6)).block, (ad153.add ((x5_1).toNat * 6)).off + 3, none⟩ = some (.slice A153_3 ((rd_T89 l0 x5_1).f3).length c153_3) ∧ w'.cell? ⟨(ad153.add ((x5_1).toNat * 6)).block, (ad153.add ((x5_1).toNat * 6)).off + 4, none⟩ = some (.int .i64 ((rd_T89 l0 x5_1).f4)) ∧ w'.cell? ⟨(ad153.add ((x5_1).toNat * 6)).block, (ad153.add ((x5_1).toNat * 6)).off + 5, none⟩ = some (.bool ((rd_T89 l0 x5_1).f5)) ∧ w'.cell? (ad154.add ((x5_1).toNat * 6)) = some (.int .i64 ((rd_T89 l1 x5_1).f0)) ∧ w'.cell? ⟨(ad154.add ((x5_1).toNat * 6)).block, (ad154.add ((x5_1).toNat * 6)).off + 1, none⟩ = some (.int .i64 ((rd_T89 l1 x5_1).f1)) ∧ w'.cell? ⟨(ad154.add ((x5_1).toNat * 6)).block, (ad154.add ((x5_1).toNat * 6)).off + 2, none⟩ = some (.int .i64 ((rd_T89 l1 x5_1).f2)) ∧ w'.cell? ⟨(ad154.add ((x5_1).toNat * 6)).block, (ad154.add ((x5_1).toNat * 6)).off + 3, none⟩ = some (.slice A154_3 ((rd_T89 l1 x5_1).f3).length c154_3) ∧ w'.cell? ⟨(ad154.add ((x5_1).toNat * 6)).block, (ad154.add ((x5_1).toNat * 6)).off + 4, none⟩ = some (.int .i64 ((rd_T89 l1 x5_1).f4)) ∧ w'.cell? ⟨(ad154.add ((x5_1).toNat * 6)).block, (ad154.add ((x5_1).toNat * 6)).off + 5, none⟩ = some (.bool ((rd_T89 l1 x5_1).f5))) (ds := []) #[false, false, false, false, false, false, false, false, false, false] (by kernel_rfl) rfl rfl ⟨(cb HB hw153_0), (cb HB hw153_1), (cb HB hw153_2), (cb HB hw153_3), (cb HB hw153_4), (cb HB hw153_5), (cb HB hw154_0), (cb HB hw154_1), (cb HB hw154_2), (cb HB hw154_3), (cb HB hw154_4), (cb HB hw154_5)⟩ (fun hHeld => ?_); refine with_tabW laws_eqCoinS.tab6 laws_eqCoinS.bits6 (fun HT_ HW_ => ?_)
             generalize wr.drew = w9 at HB HR153_3 HR154_3 hx153_0 hx153_1 hx153_2 hx153_3 hx153_4 hx153_5 hx154_0 hx154_1 hx154_2 hx154_3 hx154_4 hx154_5 hHeld ⊢
             refine rP 0 (some 17) #[true, false, false, false, false, false, false, false, false, false] (any_of HT_.out (by kernel_rfl)) ?_
             refine rP 1 (some 18) #[true, true, false, false, false, false, false, false, false, false] (any_of HT_.out (by kernel_rfl)) ?_
             refine rP 2 (some 19) #[true, true, true, false, false, false, false, false, false, false] (any_of HT_.out (by kernel_rfl)) ?_
             refine rP 4 (some 21) #[true, true, true, false, true, false, false, false, false, false] (any_of HT_.out (by kernel_rfl)) ?_
             refine rP 5 (some 22) #[true, true, true, false, true, true, false, false, false, false] (any_of HT_.out (by kernel_rfl)) ?_
             refine rP 6 (some 23) #[true, true, true, false, true, true, true, false, false, false] (any_of HT_.out (by kernel_rfl)) ?_
             refine rT 3 (some 20) #[true, true, true, true, true, true, true, false, false, false] (take_ofW HT_.out HW_.out (by kernel_rfl)) hHeld ?_
             refine rT 7 (some 24) #[true, true, true, true, true, true, true, true, false, false] (take_ofW HT_.out HW_.out (by kernel_rfl)) hHeld ?_
             refine one_ (i := 8) (N := some 25) #[true, true, true, true, true, true, true, true, true, false] rfl rfl (one_of HT_.out (by kernel_rfl)) (by decide) (fun K hK => ?_)
             refine goes_ Try.func101 (by kernel_rfl) rfl #[.agg #[.int .i64 ((rd_T89 l0 x5_1).f0), .int .i64 ((rd_T89 l0 x5_1).f1), .int .i64 ((rd_T89 l0 x5_1).f2), .slice A153_3 ((rd_T89 l0 x5_1).f3).length c153_3, .int .i64 ((rd_T89 l0 x5_1).f4), .bool ((rd_T89 l0 x5_1).f5)], .agg #[.int .i64 ((rd_T89 l1 x5_1).f0), .int .i64 ((rd_T89 l1 x5_1).f1), .int .i64 ((rd_T89 l1 x5_1).f2), .slice A154_3 ((rd_T89 l1 x5_1).f3).length c154_3, .int .i64 ((rd_T89 l1 x5_1).f4), .bool ((rd_T89 l1 x5_1).f5)]] (by rfl) rfl rfl pA ?_
             with_reducible refine (laws_eqCoin.calls k1 ((rd_T89 l0 x5_1).f0) ((rd_T89 l0 x5_1).f1) ((rd_T89 l0 x5_1).f2) _ _ ((rd_T89 l0 x5_1).f3) ((rd_T89 l0 x5_1).f4) ((rd_T89 l0 x5_1).f5) ((rd_T89 l1 x5_1).f0) ((rd_T89 l1 x5_1).f1) ((rd_T89 l1 x5_1).f2) _ _ ((rd_T89 l1 x5_1).f3) ((rd_T89 l1 x5_1).f4) ((rd_T89 l1 x5_1).f5) true _ ?side1 ?side2 ?side3 ?side4 A7.out).mono ?_
             (case side1 => exact pC (Kd.C_below HR153_3.out HB.out))
             (case side2 => exact HC153_3.out)
             (case side3 => exact pC (Kd.C_below HR154_3.out HB.out))
             (case side4 => exact HC154_3.out)
             rintro e w10 ⟨rfl, hb⟩
             refine ⟨_, rfl, ?_⟩
             have n_ := am (bz_ pB hb)
             clear HB; have HB := n_; clear n_; (try clear hb); (try clear hb2); (try clear hk); (try clear hi)
             refine hK.out _ _ ⟨(cb HB hw153_0), (cb HB hw153_1), (cb HB hw153_2), (cb HB hw153_3), (cb HB hw153_4), (cb HB hw153_5), (cb HB hw154_0), (cb HB hw154_1), (cb HB hw154_2), (cb HB hw154_3), (cb HB hw154_4), (cb HB hw154_5)⟩ (fun hHeld => ?_)
             clear hK K
             refine rN ?_
             refine rP 9 (some 26) #[true, true, true, true, true, true, true, true, true, true] (any_of HT_.out (by kernel_rfl)) ?_
             refine done_ (done_of HT_.out (by kernel_rfl)) ?_
             try go_wp2
             go_roundg k1
             case measure => have := HK1.out; omega
             case rel => exact ⟨(wrap64 (x5_1 + 1)), pF, H', ⟨by have := HK1.out; omega⟩, ⟨pB⟩⟩
           · replace c8 := Bool.eq_false_iff.mpr c8
             subst c8
             have H1 : (some false) = some r := by rw [if_neg (show ¬ (false = true) by decide)] at H; exact H
             clear H; have H := H1; clear H1
             obtain rfl := sj H
             try go_wp2
             have n_ := am (below_drew1 HB.out)
             clear HB; have HB := n_; clear n_
             have p153 : 0 ≤ (x5_1 : Int) := pD
             have q153 : x5_1 < (l0.length : Int) := pD
             obtain ⟨ad153, A153_3, c153_3, e153, hx153_0, hx153_1, hx153_2, hx153_3, hx153_4, hx153_5, hl153_3, hi153_3⟩ := at_T89 HR0.out x5_1 p153 q153
             have hw153_5 := hx153_5
             have hw153_4 := hx153_4
             have hw153_3 := hx153_3
             have hw153_2 := hx153_2
             have hw153_1 := hx153_1
             have hw153_0 := hx153_0
             cases e153; replace hx153_0 := cb HB hx153_0; replace hx153_1 := cb HB hx153_1; replace hx153_2 := cb HB hx153_2; replace hx153_3 := cb HB hx153_3; replace hx153_4 := cb HB hx153_4; replace hx153_5 := cb HB hx153_5; have HR153_3 := am hi153_3; have HC153_3 := am hl153_3; clear hi153_3 hl153_3; replace p153 := eq_true p153; replace q153 := eq_true q153
             have p154 : 0 ≤ (x5_1 : Int) := pD
             have q154 : x5_1 < (l1.length : Int) := pD
             obtain ⟨ad154, A154_3, c154_3, e154, hx154_0, hx154_1, hx154_2, hx154_3, hx154_4, hx154_5, hl154_3, hi154_3⟩ := at_T89 HR1.out x5_1 p154 q154
             have hw154_5 := hx154_5
             have hw154_4 := hx154_4
             have hw154_3 := hx154_3
             have hw154_2 := hx154_2
             have hw154_1 := hx154_1
             have hw154_0 := hx154_0
             cases e154; replace hx154_0 := cb HB hx154_0; replace hx154_1 := cb HB hx154_1; replace hx154_2 := cb HB hx154_2; replace hx154_3 := cb HB hx154_3; replace hx154_4 := cb HB hx154_4; replace hx154_5 := cb HB hx154_5; have HR154_3 := am hi154_3; have HC154_3 := am hl154_3; clear hi154_3 hl154_3; replace p154 := eq_true p154; replace q154 := eq_true q154
             refine start_ (n := 10) (S := fun w' => w'.cell? (ad153.add ((x5_1).toNat * 6)) = some (.int .i64 ((rd_T89 l0 x5_1).f0)) ∧ w'.cell? ⟨(ad153.add ((x5_1).toNat * 6)).block, (ad153.add ((x5_1).toNat * 6)).off + 1, none⟩ = some (.int .i64 ((rd_T89 l0 x5_1).f1)) ∧ w'.cell? ⟨(ad153.add ((x5_1).toNat * 6)).block, (ad153.add ((x5_1).toNat * 6)).off + 2, none⟩ = some (.int .i64 ((rd_T89 l0 x5_1).f2)) ∧ w'.cell? ⟨(ad153.add ((x5_1).toNat * 6)).block, (ad153.add ((x5_1).toNat * 6)).off + 3, none⟩ = some (.slice A153_3 ((rd_T89 l0 x5_1).f3).length c153_3) ∧ w'.cell? ⟨(ad153.add ((x5_1).toNat * 6)).block, (ad153.add ((x5_1).toNat * 6)).off + 4, none⟩ = some (.int .i64 ((rd_T89 l0 x5_1).f4)) ∧ w'.cell? ⟨(ad153.add ((x5_1).toNat * 6)).block, (ad153.add ((x5_1).toNat * 6)).off + 5, none⟩ = some (.bool ((rd_T89 l0 x5_1).f5)) ∧ w'.cell? (ad154.add ((x5_1).toNat * 6)) = some (.int .i64 ((rd_T89 l1 x5_1).f0)) ∧ w'.cell? ⟨(ad154.add ((x5_1).toNat * 6)).block, (ad154.add ((x5_1).toNat * 6)).off + 1, none⟩ = some (.int .i64 ((rd_T89 l1 x5_1).f1)) ∧ w'.cell? ⟨(ad154.add ((x5_1).toNat * 6)).block, (ad154.add ((x5_1).toNat * 6)).off + 2, none⟩ = some (.int .i64 ((rd_T89 l1 x5_1).f2)) ∧ w'.cell? ⟨(ad154.add ((x5_1).toNat * 6)).block, (ad154.add ((x5_1).toNat * 6)).off + 3, none⟩ = some (.slice A154_3 ((rd_T89 l1 x5_1).f3).length c154_3) ∧ w'.cell? ⟨(ad154.add ((x5_1).toNat * 6)).block, (ad154.add ((x5_1).toNat * 6)).off + 4, none⟩ = some (.int .i64 ((rd_T89 l1 x5_1).f4)) ∧ w'.cell? ⟨(ad154.add ((x5_1).toNat * 6)).block, (ad154.add ((x5_1).toNat * 6)).off + 5, none⟩ = some (.bool ((rd_T89 l1 x5_1).f5))) (ds := []) #[false, false, false, false, false, false, false, false, false, false] (by kernel_rfl) rfl rfl ⟨(cb HB hw153_0), (cb HB hw153_1), (cb HB hw153_2), (cb HB hw153_3), (cb HB hw153_4), (cb HB hw153_5), (cb HB hw154_0), (cb HB hw154_1), (cb HB hw154_2), (cb HB hw154_3), (cb HB hw154_4), (cb HB hw154_5)⟩ (fun hHeld => ?_); refine with_tabW laws_eqCoinS.tab6 laws_eqCoinS.bits6 (fun HT_ HW_ => ?_)
             generalize wr.drew = w11 at HB HR153_3 HR154_3 hx153_0 hx153_1 hx153_2 hx153_3 hx153_4 hx153_5 hx154_0 hx154_1 hx154_2 hx154_3 hx154_4 hx154_5 hHeld ⊢
             refine rP 0 (some 17) #[true, false, false, false, false, false, false, false, false, false] (any_of HT_.out (by kernel_rfl)) ?_
             refine rP 1 (some 18) #[true, true, false, false, false, false, false, false, false, false] (any_of HT_.out (by kernel_rfl)) ?_
             refine rP 2 (some 19) #[true, true, true, false, false, false, false, false, false, false] (any_of HT_.out (by kernel_rfl)) ?_
             refine rP 4 (some 21) #[true, true, true, false, true, false, false, false, false, false] (any_of HT_.out (by kernel_rfl)) ?_
             refine rP 5 (some 22) #[true, true, true, false, true, true, false, false, false, false] (any_of HT_.out (by kernel_rfl)) ?_
             refine rP 6 (some 23) #[true, true, true, false, true, true, true, false, false, false] (any_of HT_.out (by kernel_rfl)) ?_
             refine rT 3 (some 20) #[true, true, true, true, true, true, true, false, false, false] (take_ofW HT_.out HW_.out (by kernel_rfl)) hHeld ?_
             refine rT 7 (some 24) #[true, true, true, true, true, true, true, true, false, false] (take_ofW HT_.out HW_.out (by kernel_rfl)) hHeld ?_
             refine one_ (i := 8) (N := some 25) #[true, true, true, true, true, true, true, true, true, false] rfl rfl (one_of HT_.out (by kernel_rfl)) (by decide) (fun K hK => ?_)
             refine goes_ Try.func101 (by kernel_rfl) rfl #[.agg #[.int .i64 ((rd_T89 l0 x5_1).f0), .int .i64 ((rd_T89 l0 x5_1).f1), .int .i64 ((rd_T89 l0 x5_1).f2), .slice A153_3 ((rd_T89 l0 x5_1).f3).length c153_3, .int .i64 ((rd_T89 l0 x5_1).f4), .bool ((rd_T89 l0 x5_1).f5)], .agg #[.int .i64 ((rd_T89 l1 x5_1).f0), .int .i64 ((rd_T89 l1 x5_1).f1), .int .i64 ((rd_T89 l1 x5_1).f2), .slice A154_3 ((rd_T89 l1 x5_1).f3).length c154_3, .int .i64 ((rd_T89 l1 x5_1).f4), .bool ((rd_T89 l1 x5_1).f5)]] (by rfl) rfl rfl pA ?_
             with_reducible refine (laws_eqCoin.calls k1 ((rd_T89 l0 x5_1).f0) ((rd_T89 l0 x5_1).f1) ((rd_T89 l0 x5_1).f2) _ _ ((rd_T89 l0 x5_1).f3) ((rd_T89 l0 x5_1).f4) ((rd_T89 l0 x5_1).f5) ((rd_T89 l1 x5_1).f0) ((rd_T89 l1 x5_1).f1) ((rd_T89 l1 x5_1).f2) _ _ ((rd_T89 l1 x5_1).f3) ((rd_T89 l1 x5_1).f4) ((rd_T89 l1 x5_1).f5) false _ ?side1 ?side2 ?side3 ?side4 A7.out).mono ?_
             (case side1 => exact pC (Kd.C_below HR153_3.out HB.out))
             (case side2 => exact HC153_3.out)
             (case side3 => exact pC (Kd.C_below HR154_3.out HB.out))
             (case side4 => exact HC154_3.out)
             rintro e w12 ⟨rfl, hb⟩
             refine ⟨_, rfl, ?_⟩
             have n_ := am (bz_ pB hb)
             clear HB; have HB := n_; clear n_; (try clear hb); (try clear hb2); (try clear hk); (try clear hi)
             refine hK.out _ _ ⟨(cb HB hw153_0), (cb HB hw153_1), (cb HB hw153_2), (cb HB hw153_3), (cb HB hw153_4), (cb HB hw153_5), (cb HB hw154_0), (cb HB hw154_1), (cb HB hw154_2), (cb HB hw154_3), (cb HB hw154_4), (cb HB hw154_5)⟩ (fun hHeld => ?_)
             clear hK K
             refine rN ?_
             refine rP 9 (some 26) #[true, true, true, true, true, true, true, true, true, true] (any_of HT_.out (by kernel_rfl)) ?_
             refine done_ (done_of HT_.out (by kernel_rfl)) ?_
             try go_wp2
             go_ret
             exact ⟨pE, pB⟩
         · rw [if_neg c6] at H
           exact absurd H (by simp)
       · rw [if_neg c5] at H
         exact absurd H (by simp)
     · rw [if_neg c4] at H
       have c4b0 : decide (x5_1 < (l0.length : Int)) = false := decide_eq_false c4
       clear c4
       obtain rfl := sj H
       go_wp2
       go_ret
       exact ⟨pE, pB⟩
 · rw [if_neg c3] at H
   have c3b0 : ((l0.length : Int) == (l1.length : Int)) = false := beq_eq_false_iff_ne.mpr c3
   have c3b1 : ((l0.length : Int) != (l1.length : Int)) = true := bne_iff_ne.mpr c3
   have c3b2 : (l0.length == l1.length) = false := by first | simpa using c3 | (simp at c3 ⊢; omega)
   obtain rfl := sj H
   go_enter Try.func54, Try.ntmps54
   go_wp2
   go_ret
   exact ⟨pE, pB⟩
def laws_FnExactSameCoins.f (k : Nat) (l0 : List (S86)) (l1 : List (S86)) : Option (Bool) := (laws_szCoinS.f k l0 1048576).bind fun t156 => (if t156 < 0 then (some true) else ((laws_szCoinS.f k l1 t156).bind fun t157 => (if t157 < 0 then (some true) else ((laws_toCoinS.f k l0).bind fun t158 => ((laws_toCoinS.f k l1).bind fun t161 => ((spec_SameCoins.f k t158 t161).bind fun t164 => ((laws_toCoinS.f k l0).bind fun t165 => ((laws_toCoinS.f k l1).bind fun t168 => ((impl_SameCoins.f k t165 t168).bind fun t171 => (if (t171 != t164) = true then (none) else ((laws_toCoinS.f k l0).bind fun t172 => ((laws_eqCoinS.f k t165 t172).bind fun t175 => (if t175 = true then ((laws_toCoinS.f k l1).bind fun t176 => ((laws_eqCoinS.f k t168 t176).bind fun t179 => (if t179 = true then (some true) else (none)))) else (none))))))))))))))
theorem laws_FnExactSameCoins.mono : ∀ a0 a1 k, LeO (laws_FnExactSameCoins.f k a0 a1) (laws_FnExactSameCoins.f (k + 1) a0 a1) := by
 intro a0 a1 k
 unfold laws_FnExactSameCoins.f
 repeat' with_reducible first | exact impl_SameCoins.mono _ _ _ | exact laws_eqCoinS.mono _ _ _ | exact laws_szCoinS.mono _ _ _ | exact laws_toCoinS.mono _ _ | exact spec_SameCoins.mono _ _ _ | exact LeO.refl _ | exact LeO.none _ | refine LeO.ite ?_ ?_ | refine LeO.bind ?_ (fun _ => ?_)
theorem laws_FnExactSameCoins.calls (k : Nat) (A0 : Option Addr) (c0 : Nat) (l0 : List (S86)) (A1 : Option Addr) (c1 : Nat) (l1 : List (S86)) (r : Bool) (w : World) (hr0 : Kd.C k86 w A0 l0.length l0) (hc0 : l0.length ≤ c0) (hr1 : Kd.C k86 w A1 l1.length l1) (hc1 : l1.length ≤ c1) (h : laws_FnExactSameCoins.f k l0 l1 = some r) :
 Calls Try.prog 11 #[.slice A0 l0.length c0, .slice A1 l1.length c1] w fun e w' => e = .returned (.bool r) ∧ Below w.heap.size w w' := by
 have HR0 := am hr0; have HC0 := am hc0; clear hr0 hc0; have HR1 := am hr1; have HC1 := am hc1; clear hr1 hc1
 have HB := am (Below.refl w.heap.size w)
 have H : ((laws_szCoinS.f k l0 1048576).bind fun t156 => (if t156 < 0 then (some true) else ((laws_szCoinS.f k l1 t156).bind fun t157 => (if t157 < 0 then (some true) else ((laws_toCoinS.f k l0).bind fun t158 => ((laws_toCoinS.f k l1).bind fun t161 => ((spec_SameCoins.f k t158 t161).bind fun t164 => ((laws_toCoinS.f k l0).bind fun t165 => ((laws_toCoinS.f k l1).bind fun t168 => ((impl_SameCoins.f k t165 t168).bind fun t171 => (if (t171 != t164) = true then (none) else ((laws_toCoinS.f k l0).bind fun t172 => ((laws_eqCoinS.f k t165 t172).bind fun t175 => (if t175 = true then ((laws_toCoinS.f k l1).bind fun t176 => ((laws_eqCoinS.f k t168 t176).bind fun t179 => (if t179 = true then (some true) else (none)))) else (none))))))))))))))) = some r := h
 clear h
 obtain ⟨t156, A30, H⟩ := bO H
 replace H : (if t156 < 0 then (some true) else ((laws_szCoinS.f k l1 t156).bind fun t157 => (if t157 < 0 then (some true) else ((laws_toCoinS.f k l0).bind fun t158 => ((laws_toCoinS.f k l1).bind fun t161 => ((spec_SameCoins.f k t158 t161).bind fun t164 => ((laws_toCoinS.f k l0).bind fun t165 => ((laws_toCoinS.f k l1).bind fun t168 => ((impl_SameCoins.f k t165 t168).bind fun t171 => (if (t171 != t164) = true then (none) else ((laws_toCoinS.f k l0).bind fun t172 => ((laws_eqCoinS.f k t165 t172).bind fun t175 => (if t175 = true then ((laws_toCoinS.f k l1).bind fun t176 => ((laws_eqCoinS.f k t168 t176).bind fun t179 => (if t179 = true then (some true) else (none)))) else (none)))))))))))))) = some r := H
 have A3 := am A30; clear A30
 by_cases c4 : t156 < 0
 · rw [if_pos c4] at H
   have c4b0 : decide (t156 < 0) = true := dt c4
   clear c4
   obtain rfl := sj H
   go_enter Try.func11, Try.ntmps11
   go_wp2_with (first | ((with_reducible refine gC (f := 50) rfl ?_); refine goesL_ (some 12) rfl rfl Try.func50 (by kernel_rfl) rfl #[.slice A0 l0.length c0, .int .i64 1048576] rfl pA ?_; (with_reducible refine (laws_szCoinS.calls k _ _ l0 1048576 t156 _ ?side1 ?side2 A3.out).mono ?_); (case side1 => exact pC HR0.out); (case side2 => exact HC0.out); rintro e w5 ⟨rfl, hb⟩; refine ⟨_, rfl, ?_⟩; have n_ := am (bz_ pB hb); clear HB; have HB := n_; clear n_; (try clear hb)))
   go_ret
   exact ⟨pE, pB⟩
 · rw [if_neg c4] at H
   have c4b0 : decide (t156 < 0) = false := decide_eq_false c4
   clear c4
   obtain ⟨t157, A60, H⟩ := bO H
   replace H : (if t157 < 0 then (some true) else ((laws_toCoinS.f k l0).bind fun t158 => ((laws_toCoinS.f k l1).bind fun t161 => ((spec_SameCoins.f k t158 t161).bind fun t164 => ((laws_toCoinS.f k l0).bind fun t165 => ((laws_toCoinS.f k l1).bind fun t168 => ((impl_SameCoins.f k t165 t168).bind fun t171 => (if (t171 != t164) = true then (none) else ((laws_toCoinS.f k l0).bind fun t172 => ((laws_eqCoinS.f k t165 t172).bind fun t175 => (if t175 = true then ((laws_toCoinS.f k l1).bind fun t176 => ((laws_eqCoinS.f k t168 t176).bind fun t179 => (if t179 = true then (some true) else (none)))) else (none)))))))))))) = some r := H
   have A6 := am A60; clear A60
   by_cases c7 : t157 < 0
   · rw [if_pos c7] at H
     have c7b0 : decide (t157 < 0) = true := dt c7
     clear c7
     obtain rfl := sj H
     go_enter Try.func11, Try.ntmps11
     go_wp2_with (first | ((with_reducible refine gC (f := 50) rfl ?_); refine goesL_ (some 12) rfl rfl Try.func50 (by kernel_rfl) rfl #[.slice A0 l0.length c0, .int .i64 1048576] rfl pA ?_; (with_reducible refine (laws_szCoinS.calls k _ _ l0 1048576 t156 _ ?side1 ?side2 A3.out).mono ?_); (case side1 => exact pC HR0.out); (case side2 => exact HC0.out); rintro e w8 ⟨rfl, hb⟩; refine ⟨_, rfl, ?_⟩; have n_ := am (bz_ pB hb); clear HB; have HB := n_; clear n_; (try clear hb)) | ((with_reducible refine gC (f := 50) rfl ?_); refine goesL_ (some 17) rfl rfl Try.func50 (by kernel_rfl) rfl #[.slice A1 l1.length c1, .int .i64 t156] rfl pA ?_; (with_reducible refine (laws_szCoinS.calls k _ _ l1 t156 t157 _ ?side1 ?side2 A6.out).mono ?_); (case side1 => exact pC (Kd.C_below HR1.out HB.out)); (case side2 => exact HC1.out); rintro e w9 ⟨rfl, hb⟩; refine ⟨_, rfl, ?_⟩; have n_ := am (bz_ pB hb); clear HB; have HB := n_; clear n_; (try clear hb)))
     go_ret
     exact ⟨pE, pB⟩
   · rw [if_neg c7] at H
     have c7b0 : decide (t157 < 0) = false := decide_eq_false c7
     clear c7
     obtain ⟨t158, A100, H⟩ := bO H
     replace H : ((laws_toCoinS.f k l1).bind fun t161 => ((spec_SameCoins.f k t158 t161).bind fun t164 => ((laws_toCoinS.f k l0).bind fun t165 => ((laws_toCoinS.f k l1).bind fun t168 => ((impl_SameCoins.f k t165 t168).bind fun t171 => (if (t171 != t164) = true then (none) else ((laws_toCoinS.f k l0).bind fun t172 => ((laws_eqCoinS.f k t165 t172).bind fun t175 => (if t175 = true then ((laws_toCoinS.f k l1).bind fun t176 => ((laws_eqCoinS.f k t168 t176).bind fun t179 => (if t179 = true then (some true) else (none)))) else (none)))))))))) = some r := H
     have A10 := am A100; clear A100
     obtain ⟨t161, A110, H⟩ := bO H
     replace H : ((spec_SameCoins.f k t158 t161).bind fun t164 => ((laws_toCoinS.f k l0).bind fun t165 => ((laws_toCoinS.f k l1).bind fun t168 => ((impl_SameCoins.f k t165 t168).bind fun t171 => (if (t171 != t164) = true then (none) else ((laws_toCoinS.f k l0).bind fun t172 => ((laws_eqCoinS.f k t165 t172).bind fun t175 => (if t175 = true then ((laws_toCoinS.f k l1).bind fun t176 => ((laws_eqCoinS.f k t168 t176).bind fun t179 => (if t179 = true then (some true) else (none)))) else (none))))))))) = some r := H
     have A11 := am A110; clear A110
     obtain ⟨t164, A120, H⟩ := bO H
     replace H : ((laws_toCoinS.f k l0).bind fun t165 => ((laws_toCoinS.f k l1).bind fun t168 => ((impl_SameCoins.f k t165 t168).bind fun t171 => (if (t171 != t164) = true then (none) else ((laws_toCoinS.f k l0).bind fun t172 => ((laws_eqCoinS.f k t165 t172).bind fun t175 => (if t175 = true then ((laws_toCoinS.f k l1).bind fun t176 => ((laws_eqCoinS.f k t168 t176).bind fun t179 => (if t179 = true then (some true) else (none)))) else (none)))))))) = some r := H
     have A12 := am A120; clear A120
     obtain ⟨t165, A130, H⟩ := bO H
     replace H : ((laws_toCoinS.f k l1).bind fun t168 => ((impl_SameCoins.f k t165 t168).bind fun t171 => (if (t171 != t164) = true then (none) else ((laws_toCoinS.f k l0).bind fun t172 => ((laws_eqCoinS.f k t165 t172).bind fun t175 => (if t175 = true then ((laws_toCoinS.f k l1).bind fun t176 => ((laws_eqCoinS.f k t168 t176).bind fun t179 => (if t179 = true then (some true) else (none)))) else (none))))))) = some r := H
     have A13 := am A130; clear A130
     obtain ⟨t168, A140, H⟩ := bO H
     replace H : ((impl_SameCoins.f k t165 t168).bind fun t171 => (if (t171 != t164) = true then (none) else ((laws_toCoinS.f k l0).bind fun t172 => ((laws_eqCoinS.f k t165 t172).bind fun t175 => (if t175 = true then ((laws_toCoinS.f k l1).bind fun t176 => ((laws_eqCoinS.f k t168 t176).bind fun t179 => (if t179 = true then (some true) else (none)))) else (none)))))) = some r := H
     have A14 := am A140; clear A140
     obtain ⟨t171, A150, H⟩ := bO H
     replace H : (if (t171 != t164) = true then (none) else ((laws_toCoinS.f k l0).bind fun t172 => ((laws_eqCoinS.f k t165 t172).bind fun t175 => (if t175 = true then ((laws_toCoinS.f k l1).bind fun t176 => ((laws_eqCoinS.f k t168 t176).bind fun t179 => (if t179 = true then (some true) else (none)))) else (none))))) = some r := H
     have A15 := am A150; clear A150
     by_cases c16 : (t171 != t164) = true
     · rw [if_pos c16] at H
       exact absurd H (by simp)
     · rw [if_neg c16] at H
       have c16b0 : (t171 != t164) = false := by simpa using c16
       (try (have c16b1 : decide (t171 = t164) = true := by simpa using c16))
       (try (have c16b2 : (t171 == t164) = true := by simpa using c16))
       clear c16
       obtain ⟨t172, A170, H⟩ := bO H
       replace H : ((laws_eqCoinS.f k t165 t172).bind fun t175 => (if t175 = true then ((laws_toCoinS.f k l1).bind fun t176 => ((laws_eqCoinS.f k t168 t176).bind fun t179 => (if t179 = true then (some true) else (none)))) else (none))) = some r := H
       have A17 := am A170; clear A170
       obtain ⟨t175, A180, H⟩ := bO H
       replace H : (if t175 = true then ((laws_toCoinS.f k l1).bind fun t176 => ((laws_eqCoinS.f k t168 t176).bind fun t179 => (if t179 = true then (some true) else (none)))) else (none)) = some r := H
       have A18 := am A180; clear A180
       by_cases c19 : t175 = true
       · subst c19
         have H1 : ((laws_toCoinS.f k l1).bind fun t176 => ((laws_eqCoinS.f k t168 t176).bind fun t179 => (if t179 = true then (some true) else (none)))) = some r := by rw [if_pos rfl] at H; exact H
         clear H; have H := H1; clear H1
         obtain ⟨t176, A200, H⟩ := bO H
         replace H : ((laws_eqCoinS.f k t168 t176).bind fun t179 => (if t179 = true then (some true) else (none))) = some r := H
         have A20 := am A200; clear A200
         obtain ⟨t179, A210, H⟩ := bO H
         replace H : (if t179 = true then (some true) else (none)) = some r := H
         have A21 := am A210; clear A210
         by_cases c22 : t179 = true
         · subst c22
           have H1 : (some true) = some r := by rw [if_pos rfl] at H; exact H
           clear H; have H := H1; clear H1
           obtain rfl := sj H
           go_enter Try.func11, Try.ntmps11
           go_wp2_with (first | ((with_reducible refine gC (f := 50) rfl ?_); refine goesL_ (some 12) rfl rfl Try.func50 (by kernel_rfl) rfl #[.slice A0 l0.length c0, .int .i64 1048576] rfl pA ?_; (with_reducible refine (laws_szCoinS.calls k _ _ l0 1048576 t156 _ ?side1 ?side2 A3.out).mono ?_); (case side1 => exact pC HR0.out); (case side2 => exact HC0.out); rintro e w23 ⟨rfl, hb⟩; refine ⟨_, rfl, ?_⟩; have n_ := am (bz_ pB hb); clear HB; have HB := n_; clear n_; (try clear hb)) | ((with_reducible refine gC (f := 50) rfl ?_); refine goesL_ (some 17) rfl rfl Try.func50 (by kernel_rfl) rfl #[.slice A1 l1.length c1, .int .i64 t156] rfl pA ?_; (with_reducible refine (laws_szCoinS.calls k _ _ l1 t156 t157 _ ?side1 ?side2 A6.out).mono ?_); (case side1 => exact pC (Kd.C_below HR1.out HB.out)); (case side2 => exact HC1.out); rintro e w24 ⟨rfl, hb⟩; refine ⟨_, rfl, ?_⟩; have n_ := am (bz_ pB hb); clear HB; have HB := n_; clear n_; (try clear hb)) | ((with_reducible refine gC (f := 52) rfl ?_); refine goesL_ (some 21) rfl rfl Try.func52 (by kernel_rfl) rfl #[.slice A0 l0.length c0] rfl pA ?_; (with_reducible refine (laws_toCoinS.calls k _ _ l0 t158 _ ?side1 ?side2 A10.out).mono ?_); (case side1 => exact pC (Kd.C_below HR0.out HB.out)); (case side2 => exact HC0.out); rintro e w25 ⟨v159, rfl, ho0, hb⟩; refine ⟨_, rfl, ?_⟩; have n_ := t2 (Kd.S_lower ho0 (bs_ pB)) (bz_ pB hb); clear HB; obtain ⟨HO160, HB⟩ := n_; (try clear hb); (try clear ho0)) | ((with_reducible refine gC (f := 52) rfl ?_); refine goesL_ (some 23) rfl rfl Try.func52 (by kernel_rfl) rfl #[.slice A1 l1.length c1] rfl pA ?_; (with_reducible refine (laws_toCoinS.calls k _ _ l1 t161 _ ?side1 ?side2 A11.out).mono ?_); (case side1 => exact pC (Kd.C_below HR1.out HB.out)); (case side2 => exact HC1.out); rintro e w26 ⟨v162, rfl, ho0, hb⟩; refine ⟨_, rfl, ?_⟩; have n_ := t3 (Kd.S_elder' (by (with_reducible repeat (first | apply Kd.S_alloc | apply Kd.S_drewN | apply Kd.S_drew)); exact HO160.out) (Kd.S_base ho0) hb) (Kd.S_lower (Kd.S_new' ho0 (Kd.S_lt (by (with_reducible repeat (first | apply Kd.S_alloc | apply Kd.S_drewN | apply Kd.S_drew)); exact HO160.out))) (bs_ pB)) (bz_ pB hb); clear HO160 HB; obtain ⟨HO160, HO163, HB⟩ := n_; (try clear hb); (try clear ho0); obtain ⟨Ao27, co27, eo27⟩ := Kd.S_slice HO160.out; subst eo27; obtain ⟨Ao28, co28, eo28⟩ := Kd.S_slice HO163.out; subst eo28) | ((with_reducible refine gC (f := 51) rfl ?_); refine goesL_ (some 24) rfl rfl Try.func51 (by kernel_rfl) rfl #[.slice Ao27 t158.length co27, .slice Ao28 t161.length co28] rfl pA ?_; (with_reducible refine (spec_SameCoins.calls k _ _ t158 _ _ t161 t164 _ ?side1 ?side2 ?side3 ?side4 A12.out).mono ?_); (case side1 => exact pC (Kd.S_reads' HO160.out).2.2); (case side2 => exact (Kd.S_reads' HO160.out).2.1); (case side3 => exact pC (Kd.S_reads' HO163.out).2.2); (case side4 => exact (Kd.S_reads' HO163.out).2.1); rintro e w29 ⟨rfl, hb⟩; refine ⟨_, rfl, ?_⟩; have n_ := t3 (Kd.S_below (by (with_reducible repeat (first | apply Kd.S_alloc | apply Kd.S_drewN | apply Kd.S_drew)); exact HO160.out) hb) (Kd.S_below (by (with_reducible repeat (first | apply Kd.S_alloc | apply Kd.S_drewN | apply Kd.S_drew)); exact HO163.out) hb) (bz_ pB hb); clear HO160 HO163 HB; obtain ⟨HO160, HO163, HB⟩ := n_; (try clear hb)) | ((with_reducible refine gC (f := 52) rfl ?_); refine goesL_ (some 26) rfl rfl Try.func52 (by kernel_rfl) rfl #[.slice A0 l0.length c0] rfl pA ?_; (with_reducible refine (laws_toCoinS.calls k _ _ l0 t165 _ ?side1 ?side2 A13.out).mono ?_); (case side1 => exact pC (Kd.C_below HR0.out HB.out)); (case side2 => exact HC0.out); rintro e w30 ⟨v166, rfl, ho0, hb⟩; refine ⟨_, rfl, ?_⟩; have n_ := t4 (Kd.S_elder' (by (with_reducible repeat (first | apply Kd.S_alloc | apply Kd.S_drewN | apply Kd.S_drew)); exact HO160.out) (Kd.S_base ho0) hb) (Kd.S_elder' (by (with_reducible repeat (first | apply Kd.S_alloc | apply Kd.S_drewN | apply Kd.S_drew)); exact HO163.out) (Kd.S_base ho0) hb) (Kd.S_lower (Kd.S_new' (Kd.S_new' ho0 (Kd.S_lt (by (with_reducible repeat (first | apply Kd.S_alloc | apply Kd.S_drewN | apply Kd.S_drew)); exact HO160.out))) (Kd.S_lt (by (with_reducible repeat (first | apply Kd.S_alloc | apply Kd.S_drewN | apply Kd.S_drew)); exact HO163.out))) (bs_ pB)) (bz_ pB hb); clear HO160 HO163 HB; obtain ⟨HO160, HO163, HO167, HB⟩ := n_; (try clear hb); (try clear ho0)) | ((with_reducible refine gC (f := 52) rfl ?_); refine goesL_ (some 28) rfl rfl Try.func52 (by kernel_rfl) rfl #[.slice A1 l1.length c1] rfl pA ?_; (with_reducible refine (laws_toCoinS.calls k _ _ l1 t168 _ ?side1 ?side2 A14.out).mono ?_); (case side1 => exact pC (Kd.C_below HR1.out HB.out)); (case side2 => exact HC1.out); rintro e w31 ⟨v169, rfl, ho0, hb⟩; refine ⟨_, rfl, ?_⟩; have n_ := t5 (Kd.S_elder' (by (with_reducible repeat (first | apply Kd.S_alloc | apply Kd.S_drewN | apply Kd.S_drew)); exact HO160.out) (Kd.S_base ho0) hb) (Kd.S_elder' (by (with_reducible repeat (first | apply Kd.S_alloc | apply Kd.S_drewN | apply Kd.S_drew)); exact HO163.out) (Kd.S_base ho0) hb) (Kd.S_elder' (by (with_reducible repeat (first | apply Kd.S_alloc | apply Kd.S_drewN | apply Kd.S_drew)); exact HO167.out) (Kd.S_base ho0) hb) (Kd.S_lower (Kd.S_new' (Kd.S_new' (Kd.S_new' ho0 (Kd.S_lt (by (with_reducible repeat (first | apply Kd.S_alloc | apply Kd.S_drewN | apply Kd.S_drew)); exact HO160.out))) (Kd.S_lt (by (with_reducible repeat (first | apply Kd.S_alloc | apply Kd.S_drewN | apply Kd.S_drew)); exact HO163.out))) (Kd.S_lt (by (with_reducible repeat (first | apply Kd.S_alloc | apply Kd.S_drewN | apply Kd.S_drew)); exact HO167.out))) (bs_ pB)) (bz_ pB hb); clear HO160 HO163 HO167 HB; obtain ⟨HO160, HO163, HO167, HO170, HB⟩ := n_; (try clear hb); (try clear ho0); obtain ⟨Ao32, co32, eo32⟩ := Kd.S_slice HO167.out; subst eo32; obtain ⟨Ao33, co33, eo33⟩ := Kd.S_slice HO170.out; subst eo33) | ((with_reducible refine gC (f := 53) rfl ?_); refine goesL_ (some 31) rfl rfl Try.func53 (by kernel_rfl) rfl #[.slice Ao32 t165.length co32, .slice Ao33 t168.length co33] rfl pA ?_; (with_reducible refine (impl_SameCoins.calls k _ _ t165 _ _ t168 t171 _ ?side1 ?side2 ?side3 ?side4 A15.out).mono ?_); (case side1 => exact pC (Kd.S_reads' HO167.out).2.2); (case side2 => exact (Kd.S_reads' HO167.out).2.1); (case side3 => exact pC (Kd.S_reads' HO170.out).2.2); (case side4 => exact (Kd.S_reads' HO170.out).2.1); rintro e w34 ⟨rfl, hb⟩; refine ⟨_, rfl, ?_⟩; have n_ := t5 (Kd.S_below (by (with_reducible repeat (first | apply Kd.S_alloc | apply Kd.S_drewN | apply Kd.S_drew)); exact HO160.out) hb) (Kd.S_below (by (with_reducible repeat (first | apply Kd.S_alloc | apply Kd.S_drewN | apply Kd.S_drew)); exact HO163.out) hb) (Kd.S_below (by (with_reducible repeat (first | apply Kd.S_alloc | apply Kd.S_drewN | apply Kd.S_drew)); exact HO167.out) hb) (Kd.S_below (by (with_reducible repeat (first | apply Kd.S_alloc | apply Kd.S_drewN | apply Kd.S_drew)); exact HO170.out) hb) (bz_ pB hb); clear HO160 HO163 HO167 HO170 HB; obtain ⟨HO160, HO163, HO167, HO170, HB⟩ := n_; (try clear hb)) | ((with_reducible refine gC (f := 52) rfl ?_); refine goesL_ (some 37) rfl rfl Try.func52 (by kernel_rfl) rfl #[.slice A0 l0.length c0] rfl pA ?_; (with_reducible refine (laws_toCoinS.calls k _ _ l0 t172 _ ?side1 ?side2 A17.out).mono ?_); (case side1 => exact pC (Kd.C_below HR0.out HB.out)); (case side2 => exact HC0.out); rintro e w35 ⟨v173, rfl, ho0, hb⟩; refine ⟨_, rfl, ?_⟩; have n_ := t6 (Kd.S_elder' (by (with_reducible repeat (first | apply Kd.S_alloc | apply Kd.S_drewN | apply Kd.S_drew)); exact HO160.out) (Kd.S_base ho0) hb) (Kd.S_elder' (by (with_reducible repeat (first | apply Kd.S_alloc | apply Kd.S_drewN | apply Kd.S_drew)); exact HO163.out) (Kd.S_base ho0) hb) (Kd.S_elder' (by (with_reducible repeat (first | apply Kd.S_alloc | apply Kd.S_drewN | apply Kd.S_drew)); exact HO167.out) (Kd.S_base ho0) hb) (Kd.S_elder' (by (with_reducible repeat (first | apply Kd.S_alloc | apply Kd.S_drewN | apply Kd.S_drew)); exact HO170.out) (Kd.S_base ho0) hb) (Kd.S_lower (Kd.S_new' (Kd.S_new' (Kd.S_new' (Kd.S_new' ho0 (Kd.S_lt (by (with_reducible repeat (first | apply Kd.S_alloc | apply Kd.S_drewN | apply Kd.S_drew)); exact HO160.out))) (Kd.S_lt (by (with_reducible repeat (first | apply Kd.S_alloc | apply Kd.S_drewN | apply Kd.S_drew)); exact HO163.out))) (Kd.S_lt (by (with_reducible repeat (first | apply Kd.S_alloc | apply Kd.S_drewN | apply Kd.S_drew)); exact HO167.out))) (Kd.S_lt (by (with_reducible repeat (first | apply Kd.S_alloc | apply Kd.S_drewN | apply Kd.S_drew)); exact HO170.out))) (bs_ pB)) (bz_ pB hb); clear HO160 HO163 HO167 HO170 HB; obtain ⟨HO160, HO163, HO167, HO170, HO174, HB⟩ := n_; (try clear hb); (try clear ho0); obtain ⟨Ao36, co36, eo36⟩ := Kd.S_slice HO174.out; subst eo36) | ((with_reducible refine gC (f := 54) rfl ?_); refine goesL_ (some 38) rfl rfl Try.func54 (by kernel_rfl) rfl #[.slice Ao32 t165.length co32, .slice Ao36 t172.length co36] rfl pA ?_; (with_reducible refine (laws_eqCoinS.calls k _ _ t165 _ _ t172 true _ ?side1 ?side2 ?side3 ?side4 A18.out).mono ?_); (case side1 => exact pC (Kd.S_reads' HO167.out).2.2); (case side2 => exact (Kd.S_reads' HO167.out).2.1); (case side3 => exact pC (Kd.S_reads' HO174.out).2.2); (case side4 => exact (Kd.S_reads' HO174.out).2.1); rintro e w37 ⟨rfl, hb⟩; refine ⟨_, rfl, ?_⟩; have n_ := t6 (Kd.S_below (by (with_reducible repeat (first | apply Kd.S_alloc | apply Kd.S_drewN | apply Kd.S_drew)); exact HO160.out) hb) (Kd.S_below (by (with_reducible repeat (first | apply Kd.S_alloc | apply Kd.S_drewN | apply Kd.S_drew)); exact HO163.out) hb) (Kd.S_below (by (with_reducible repeat (first | apply Kd.S_alloc | apply Kd.S_drewN | apply Kd.S_drew)); exact HO167.out) hb) (Kd.S_below (by (with_reducible repeat (first | apply Kd.S_alloc | apply Kd.S_drewN | apply Kd.S_drew)); exact HO170.out) hb) (Kd.S_below (by (with_reducible repeat (first | apply Kd.S_alloc | apply Kd.S_drewN | apply Kd.S_drew)); exact HO174.out) hb) (bz_ pB hb); clear HO160 HO163 HO167 HO170 HO174 HB; obtain ⟨HO160, HO163, HO167, HO170, HO174, HB⟩ := n_; (try clear hb)) | ((with_reducible refine gC (f := 52) rfl ?_); refine goesL_ (some 42) rfl rfl Try.func52 (by kernel_rfl) rfl #[.slice A1 l1.length c1] rfl pA ?_; (with_reducible refine (laws_toCoinS.calls k _ _ l1 t176 _ ?side1 ?side2 A20.out).mono ?_); (case side1 => exact pC (Kd.C_below HR1.out HB.out)); (case side2 => exact HC1.out); rintro e w38 ⟨v177, rfl, ho0, hb⟩; refine ⟨_, rfl, ?_⟩; have n_ := t7 (Kd.S_elder' (by (with_reducible repeat (first | apply Kd.S_alloc | apply Kd.S_drewN | apply Kd.S_drew)); exact HO160.out) (Kd.S_base ho0) hb) (Kd.S_elder' (by (with_reducible repeat (first | apply Kd.S_alloc | apply Kd.S_drewN | apply Kd.S_drew)); exact HO163.out) (Kd.S_base ho0) hb) (Kd.S_elder' (by (with_reducible repeat (first | apply Kd.S_alloc | apply Kd.S_drewN | apply Kd.S_drew)); exact HO167.out) (Kd.S_base ho0) hb) (Kd.S_elder' (by (with_reducible repeat (first | apply Kd.S_alloc | apply Kd.S_drewN | apply Kd.S_drew)); exact HO170.out) (Kd.S_base ho0) hb) (Kd.S_elder' (by (with_reducible repeat (first | apply Kd.S_alloc | apply Kd.S_drewN | apply Kd.S_drew)); exact HO174.out) (Kd.S_base ho0) hb) (Kd.S_lower (Kd.S_new' (Kd.S_new' (Kd.S_new' (Kd.S_new' (Kd.S_new' ho0 (Kd.S_lt (by (with_reducible repeat (first | apply Kd.S_alloc | apply Kd.S_drewN | apply Kd.S_drew)); exact HO160.out))) (Kd.S_lt (by (with_reducible repeat (first | apply Kd.S_alloc | apply Kd.S_drewN | apply Kd.S_drew)); exact HO163.out))) (Kd.S_lt (by (with_reducible repeat (first | apply Kd.S_alloc | apply Kd.S_drewN | apply Kd.S_drew)); exact HO167.out))) (Kd.S_lt (by (with_reducible repeat (first | apply Kd.S_alloc | apply Kd.S_drewN | apply Kd.S_drew)); exact HO170.out))) (Kd.S_lt (by (with_reducible repeat (first | apply Kd.S_alloc | apply Kd.S_drewN | apply Kd.S_drew)); exact HO174.out))) (bs_ pB)) (bz_ pB hb); clear HO160 HO163 HO167 HO170 HO174 HB; obtain ⟨HO160, HO163, HO167, HO170, HO174, HO178, HB⟩ := n_; (try clear hb); (try clear ho0); obtain ⟨Ao39, co39, eo39⟩ := Kd.S_slice HO178.out; subst eo39) | ((with_reducible refine gC (f := 54) rfl ?_); refine goesL_ (some 43) rfl rfl Try.func54 (by kernel_rfl) rfl #[.slice Ao33 t168.length co33, .slice Ao39 t176.length co39] rfl pA ?_; (with_reducible refine (laws_eqCoinS.calls k _ _ t168 _ _ t176 true _ ?side1 ?side2 ?side3 ?side4 A21.out).mono ?_); (case side1 => exact pC (Kd.S_reads' HO170.out).2.2); (case side2 => exact (Kd.S_reads' HO170.out).2.1); (case side3 => exact pC (Kd.S_reads' HO178.out).2.2); (case side4 => exact (Kd.S_reads' HO178.out).2.1); rintro e w40 ⟨rfl, hb⟩; refine ⟨_, rfl, ?_⟩; have n_ := t7 (Kd.S_below (by (with_reducible repeat (first | apply Kd.S_alloc | apply Kd.S_drewN | apply Kd.S_drew)); exact HO160.out) hb) (Kd.S_below (by (with_reducible repeat (first | apply Kd.S_alloc | apply Kd.S_drewN | apply Kd.S_drew)); exact HO163.out) hb) (Kd.S_below (by (with_reducible repeat (first | apply Kd.S_alloc | apply Kd.S_drewN | apply Kd.S_drew)); exact HO167.out) hb) (Kd.S_below (by (with_reducible repeat (first | apply Kd.S_alloc | apply Kd.S_drewN | apply Kd.S_drew)); exact HO170.out) hb) (Kd.S_below (by (with_reducible repeat (first | apply Kd.S_alloc | apply Kd.S_drewN | apply Kd.S_drew)); exact HO174.out) hb) (Kd.S_below (by (with_reducible repeat (first | apply Kd.S_alloc | apply Kd.S_drewN | apply Kd.S_drew)); exact HO178.out) hb) (bz_ pB hb); clear HO160 HO163 HO167 HO170 HO174 HO178 HB; obtain ⟨HO160, HO163, HO167, HO170, HO174, HO178, HB⟩ := n_; (try clear hb)))
           go_ret
           exact ⟨pE, pB⟩
         · replace c22 := Bool.eq_false_iff.mpr c22
           subst c22
           have H1 : (none) = some r := by rw [if_neg (show ¬ (false = true) by decide)] at H; exact H
           clear H; have H := H1; clear H1
           exact absurd H (by simp)
       · replace c19 := Bool.eq_false_iff.mpr c19
         subst c19
         have H1 : (none) = some r := by rw [if_neg (show ¬ (false = true) by decide)] at H; exact H
         clear H; have H := H1; clear H1
         exact absurd H (by simp)
end Go.Proofs.Ytmjmcgheeljieaa.QFnExactSameCoins
