-- written by this session's program (wip/tools/myprint.py)
import Derived.Test.YthjlbpgiaehjnaaQFnExactBlockRootx0
import Derived.Test.YthjlbpgiaehjnaaQFnExactBlockRootx2
-- squeezed
namespace Go.Proofs.Ythjlbpgiaehjnaa.QFnExactBlockRoot
open Go.RowKit Go.Proofs.YthjlbpgiaehjnaaW.PrintWords Go.Proofs.YthjlbpgiaehjnaaW.PrintLast Go.Proofs.YthjlbpgiaehjnaaW.PrintMore
attribute [local go_sem] max2_int min2_int max_two min_two max_three min_three max_four min_four   -- for this text's walks alone
set_option linter.unusedVariables false
set_option linter.unusedSimpArgs false
set_option maxHeartbeats 8000000
set_option maxRecDepth 100000
def laws_eqInS.l0 : Nat → List (S34) → List (S34) → Int → Option (Bool)
 | 0, _, _, _ => none
 | k + 1, x0, x1, x5 => if x5 < (x0.length : Int) then (if 0 ≤ x5 then (if x5 < (x1.length : Int) then ((laws_eqIn.f k ((rd_T34 x0 x5).f0) ((rd_T34 x0 x5).f1) ((rd_T34 x0 x5).f2) ((rd_T34 x1 x5).f0) ((rd_T34 x1 x5).f1) ((rd_T34 x1 x5).f2)).bind fun t188 => (if t188 = true then (laws_eqInS.l0 k x0 x1 (wrap64 (x5 + 1))) else (some false))) else (none)) else (none)) else (some true)
def laws_eqInS.f (k : Nat) (l0 : List (S34)) (l1 : List (S34)) : Option (Bool) := if (l0.length : Int) = (l1.length : Int) then (laws_eqInS.l0 k l0 l1 0) else (some false)
theorem laws_eqInS.mono_l : ∀ k, (∀ y0 y1 y2, LeO (laws_eqInS.l0 k y0 y1 y2) (laws_eqInS.l0 (k + 1) y0 y1 y2))
 | 0 => fun _ _ _ r h => by simp [laws_eqInS.l0] at h
 | k + 1 => by
  have ih0 := laws_eqInS.mono_l k
  · intro y0 y1 y2
    unfold laws_eqInS.l0
    repeat' with_reducible first | exact ih0 _ _ _ | exact laws_eqIn.mono _ _ _ _ _ _ _ | exact LeO.refl _ | exact LeO.none _ | refine LeO.ite ?_ ?_ | refine LeO.bind ?_ (fun _ => ?_)
theorem laws_eqInS.mono : ∀ a0 a1 k, LeO (laws_eqInS.f k a0 a1) (laws_eqInS.f (k + 1) a0 a1) := by
 intro a0 a1 k
 have ih0 := laws_eqInS.mono_l k
 unfold laws_eqInS.f
 repeat' with_reducible first | exact ih0 _ _ _ | exact laws_eqIn.mono _ _ _ _ _ _ _ | exact LeO.refl _ | exact LeO.none _ | refine LeO.ite ?_ ?_ | refine LeO.bind ?_ (fun _ => ?_)
def laws_eqInS.T6 : Bool × List (List Nat × List Nat) := (true, [([], []), ([], []), ([0, 1], [0, 1]), ([2], [2]), ([], []), ([], []), ([4, 5], [4, 5]), ([6], [6]), ([3, 7], [3, 7]), ([8], [8])])
def laws_eqInS.B6 : List Nat := [0, 0, 3, 7, 0, 0, 48, 112, 255, 511]
theorem laws_eqInS.tab6 : rtab .any (opsOf Try.f66 6) = laws_eqInS.T6 := by kernel_rfl
theorem laws_eqInS.bits6 : waitsOk laws_eqInS.T6.2 laws_eqInS.B6 = true := by kernel_rfl
theorem laws_eqInS.calls (k : Nat) (A0 : Option Addr) (c0 : Nat) (l0 : List (S34)) (A1 : Option Addr) (c1 : Nat) (l1 : List (S34)) (r : Bool) (w : World) (hr0 : Kd.C k34 w A0 l0.length l0) (hc0 : l0.length ≤ c0) (hr1 : Kd.C k34 w A1 l1.length l1) (hc1 : l1.length ≤ c1) (h : laws_eqInS.f k l0 l1 = some r) :
 Calls Try.prog 66 #[.slice A0 l0.length c0, .slice A1 l1.length c1] w fun e w' => e = .returned (.bool r) ∧ Below w.heap.size w w' := by
 have hu34 := Try.underlying34
 have HR0 := am hr0; have HC0 := am hc0; clear hr0 hc0; have HR1 := am hr1; have HC1 := am hc1; clear hr1 hc1
 have HB := am (Below.refl w.heap.size w)
 have H : (if (l0.length : Int) = (l1.length : Int) then (laws_eqInS.l0 k l0 l1 0) else (some false)) = some r := h
 clear h
 by_cases c3 : (l0.length : Int) = (l1.length : Int)
 · rw [if_pos c3] at H
   have c3b0 : ((l0.length : Int) == (l1.length : Int)) = true := beq_iff_eq.mpr c3
   have c3b1 : ((l0.length : Int) != (l1.length : Int)) = false := bne_eq_false_iff_eq.mpr c3
   have c3b2 : (l0.length == l1.length) = true := by first | simpa using c3 | (simp at c3 ⊢; omega)
   clear c3
   have H' := am H
   clear H
   go_enter Try.func66, Try.ntmps66
   go_wp2
   go_loopg [5] k (fun kq v5 w' => ∃ (x5_1 : Int), v5 = .int .i64 x5_1 ∧ Aside0 (laws_eqInS.l0 kq l0 l1 x5_1 = some r) ∧ Aside0 (kq ≤ k) ∧ Aside0 (Below w.heap.size w w'))
   case atStart => exact ⟨(0), pF, H', ⟨Nat.le_refl _⟩, ⟨pB⟩⟩
   case round =>
    clear H'
    (try clear c1); (try clear c3); (try clear c3b0); (try clear c3b1); (try clear c3b2)
    obtain ⟨x5_1, rfl, HA, HK1, HB⟩ := hrel
    cases gk with
    | zero => exact absurd HA.out (by simp [laws_eqInS.l0])
    | succ k1 =>
     have H := HA.out
     clear HA
     simp only [laws_eqInS.l0] at H
     by_cases c4 : x5_1 < (l0.length : Int)
     · rw [if_pos c4] at H
       have c4b0 : decide (x5_1 < (l0.length : Int)) = true := dt c4
       clear c4
       by_cases c5 : 0 ≤ x5_1
       · rw [if_pos c5] at H
         have c5b0 : decide (0 ≤ x5_1) = true := dt c5
         clear c5
         by_cases c6 : x5_1 < (l1.length : Int)
         · rw [if_pos c6] at H
           have c6b0 : decide (x5_1 < (l1.length : Int)) = true := dt c6
           clear c6
           obtain ⟨t188, A70, H⟩ := bO H
           replace H : (if t188 = true then (laws_eqInS.l0 k1 l0 l1 (wrap64 (x5_1 + 1))) else (some false)) = some r := H
           have A7 := am A70; clear A70
           by_cases c8 : t188 = true
           · subst c8
             have H1 : (laws_eqInS.l0 k1 l0 l1 (wrap64 (x5_1 + 1))) = some r := by rw [if_pos rfl] at H; exact H
             clear H; have H := H1; clear H1
             have H' := am H
             clear H
             try go_wp2
             have n_ := am (below_drew1 HB.out)
             clear HB; have HB := n_; clear n_
             have p186 : 0 ≤ (x5_1 : Int) := pD
             have q186 : x5_1 < (l0.length : Int) := pD
             obtain ⟨ad186, A186_2, c186_2, e186, hx186_0, hx186_1, hx186_2, hl186_2, hi186_2⟩ := at_T34 HR0.out x5_1 p186 q186
             have hw186_2 := hx186_2
             have hw186_1 := hx186_1
             have hw186_0 := hx186_0
             cases e186; replace hx186_0 := cb HB hx186_0; replace hx186_1 := cb HB hx186_1; replace hx186_2 := cb HB hx186_2; have HR186_2 := am hi186_2; have HC186_2 := am hl186_2; clear hi186_2 hl186_2; replace p186 := eq_true p186; replace q186 := eq_true q186
             have p187 : 0 ≤ (x5_1 : Int) := pD
             have q187 : x5_1 < (l1.length : Int) := pD
             obtain ⟨ad187, A187_2, c187_2, e187, hx187_0, hx187_1, hx187_2, hl187_2, hi187_2⟩ := at_T34 HR1.out x5_1 p187 q187
             have hw187_2 := hx187_2
             have hw187_1 := hx187_1
             have hw187_0 := hx187_0
             cases e187; replace hx187_0 := cb HB hx187_0; replace hx187_1 := cb HB hx187_1; replace hx187_2 := cb HB hx187_2; have HR187_2 := am hi187_2; have HC187_2 := am hl187_2; clear hi187_2 hl187_2; replace p187 := eq_true p187; replace q187 := eq_true q187
             refine start_ (n := 10) (S := fun w' => w'.cell? (ad186.add ((x5_1).toNat * 3)) = some (.int .i64 ((rd_T34 l0 x5_1).f0)) ∧ w'.cell? ⟨(ad186.add ((x5_1).toNat * 3)).block, (ad186.add ((x5_1).toNat * 3)).off + 1, none⟩ = some (.int .i64 ((rd_T34 l0 x5_1).f1)) ∧ w'.cell? ⟨(ad186.add ((x5_1).toNat * 3)).block, (ad186.add ((x5_1).toNat * 3)).off + 2, none⟩ = some (.slice A186_2 ((rd_T34 l0 x5_1).f2).length c186_2) ∧ w'.cell? (ad187.add ((x5_1).toNat * 3)) = some (.int .i64 ((rd_T34 l1 x5_1).f0)) ∧ w'.cell? ⟨(ad187.add ((x5_1).toNat * 3)).block, (ad187.add ((x5_1).toNat * 3)).off + 1, none⟩ = some (.int .i64 ((rd_T34 l1 x5_1).f1)) ∧ w'.cell? ⟨(ad187.add ((x5_1).toNat * 3)).block, (ad187.add ((x5_1).toNat * 3)).off + 2, none⟩ = some (.slice A187_2 ((rd_T34 l1 x5_1).f2).length c187_2)) (ds := []) #[false, false, false, false, false, false, false, false, false, false] (by kernel_rfl) rfl rfl ⟨(cb HB hw186_0), (cb HB hw186_1), (cb HB hw186_2), (cb HB hw187_0), (cb HB hw187_1), (cb HB hw187_2)⟩ (fun hHeld => ?_); refine with_tabW laws_eqInS.tab6 laws_eqInS.bits6 (fun HT_ HW_ => ?_)
             generalize wr.drew = w9 at HB HR186_2 HR187_2 hx186_0 hx186_1 hx186_2 hx187_0 hx187_1 hx187_2 hHeld ⊢
             refine rP 0 (some 17) #[true, false, false, false, false, false, false, false, false, false] (any_of HT_.out (by kernel_rfl)) ?_
             refine rP 1 (some 18) #[true, true, false, false, false, false, false, false, false, false] (any_of HT_.out (by kernel_rfl)) ?_
             refine rP 2 (some 19) #[true, true, true, false, false, false, false, false, false, false] (any_of HT_.out (by kernel_rfl)) ?_
             refine rP 4 (some 21) #[true, true, true, false, true, false, false, false, false, false] (any_of HT_.out (by kernel_rfl)) ?_
             refine rP 5 (some 22) #[true, true, true, false, true, true, false, false, false, false] (any_of HT_.out (by kernel_rfl)) ?_
             refine rP 6 (some 23) #[true, true, true, false, true, true, true, false, false, false] (any_of HT_.out (by kernel_rfl)) ?_
             refine rT 3 (some 20) #[true, true, true, true, true, true, true, false, false, false] (take_ofW HT_.out HW_.out (by kernel_rfl)) hHeld ?_
             refine rT 7 (some 24) #[true, true, true, true, true, true, true, true, false, false] (take_ofW HT_.out HW_.out (by kernel_rfl)) hHeld ?_
             refine one_ (i := 8) (N := some 25) #[true, true, true, true, true, true, true, true, true, false] rfl rfl (one_of HT_.out (by kernel_rfl)) (by decide) (fun K hK => ?_)
             refine goes_ Try.func116 (by kernel_rfl) rfl #[.agg #[.int .i64 ((rd_T34 l0 x5_1).f0), .int .i64 ((rd_T34 l0 x5_1).f1), .slice A186_2 ((rd_T34 l0 x5_1).f2).length c186_2], .agg #[.int .i64 ((rd_T34 l1 x5_1).f0), .int .i64 ((rd_T34 l1 x5_1).f1), .slice A187_2 ((rd_T34 l1 x5_1).f2).length c187_2]] (by rfl) rfl rfl pA ?_
             with_reducible refine (laws_eqIn.calls k1 ((rd_T34 l0 x5_1).f0) ((rd_T34 l0 x5_1).f1) _ _ ((rd_T34 l0 x5_1).f2) ((rd_T34 l1 x5_1).f0) ((rd_T34 l1 x5_1).f1) _ _ ((rd_T34 l1 x5_1).f2) true _ ?side1 ?side2 ?side3 ?side4 A7.out).mono ?_
             (case side1 => exact pC (Kd.C_below HR186_2.out HB.out))
             (case side2 => exact HC186_2.out)
             (case side3 => exact pC (Kd.C_below HR187_2.out HB.out))
             (case side4 => exact HC187_2.out)
             rintro e w10 ⟨rfl, hb⟩
             refine ⟨_, rfl, ?_⟩
             have n_ := am (bz_ pB hb)
             clear HB; have HB := n_; clear n_; (try clear hb); (try clear hb2); (try clear hk); (try clear hi)
             refine hK.out _ _ ⟨(cb HB hw186_0), (cb HB hw186_1), (cb HB hw186_2), (cb HB hw187_0), (cb HB hw187_1), (cb HB hw187_2)⟩ (fun hHeld => ?_)
             clear hK K
             refine rN ?_
             refine rP 9 (some 26) #[true, true, true, true, true, true, true, true, true, true] (any_of HT_.out (by kernel_rfl)) ?_
             refine done_ (done_of HT_.out (by kernel_rfl)) ?_
             try go_wp2
             go_roundg k1
             case measure => have := HK1.out; omega
             case rel => exact ⟨(wrap64 (x5_1 + 1)), pF, H', ⟨by have := HK1.out; omega⟩, ⟨pB⟩⟩
           · replace c8 := Bool.eq_false_iff.mpr c8
             subst c8
             have H1 : (some false) = some r := by rw [if_neg (show ¬ (false = true) by decide)] at H; exact H
             clear H; have H := H1; clear H1
             obtain rfl := sj H
             try go_wp2
             have n_ := am (below_drew1 HB.out)
             clear HB; have HB := n_; clear n_
             have p186 : 0 ≤ (x5_1 : Int) := pD
             have q186 : x5_1 < (l0.length : Int) := pD
             obtain ⟨ad186, A186_2, c186_2, e186, hx186_0, hx186_1, hx186_2, hl186_2, hi186_2⟩ := at_T34 HR0.out x5_1 p186 q186
             have hw186_2 := hx186_2
             have hw186_1 := hx186_1
             have hw186_0 := hx186_0
             cases e186; replace hx186_0 := cb HB hx186_0; replace hx186_1 := cb HB hx186_1; replace hx186_2 := cb HB hx186_2; have HR186_2 := am hi186_2; have HC186_2 := am hl186_2; clear hi186_2 hl186_2; replace p186 := eq_true p186; replace q186 := eq_true q186
             have p187 : 0 ≤ (x5_1 : Int) := pD
             have q187 : x5_1 < (l1.length : Int) := pD
             obtain ⟨ad187, A187_2, c187_2, e187, hx187_0, hx187_1, hx187_2, hl187_2, hi187_2⟩ := at_T34 HR1.out x5_1 p187 q187
             have hw187_2 := hx187_2
             have hw187_1 := hx187_1
             have hw187_0 := hx187_0
             cases e187; replace hx187_0 := cb HB hx187_0; replace hx187_1 := cb HB hx187_1; replace hx187_2 := cb HB hx187_2; have HR187_2 := am hi187_2; have HC187_2 := am hl187_2; clear hi187_2 hl187_2; replace p187 := eq_true p187; replace q187 := eq_true q187
             refine start_ (n := 10) (S := fun w' => w'.cell? (ad186.add ((x5_1).toNat * 3)) = some (.int .i64 ((rd_T34 l0 x5_1).f0)) ∧ w'.cell? ⟨(ad186.add ((x5_1).toNat * 3)).block, (ad186.add ((x5_1).toNat * 3)).off + 1, none⟩ = some (.int .i64 ((rd_T34 l0 x5_1).f1)) ∧ w'.cell? ⟨(ad186.add ((x5_1).toNat * 3)).block, (ad186.add ((x5_1).toNat * 3)).off + 2, none⟩ = some (.slice A186_2 ((rd_T34 l0 x5_1).f2).length c186_2) ∧ w'.cell? (ad187.add ((x5_1).toNat * 3)) = some (.int .i64 ((rd_T34 l1 x5_1).f0)) ∧ w'.cell? ⟨(ad187.add ((x5_1).toNat * 3)).block, (ad187.add ((x5_1).toNat * 3)).off + 1, none⟩ = some (.int .i64 ((rd_T34 l1 x5_1).f1)) ∧ w'.cell? ⟨(ad187.add ((x5_1).toNat * 3)).block, (ad187.add ((x5_1).toNat * 3)).off + 2, none⟩ = some (.slice A187_2 ((rd_T34 l1 x5_1).f2).length c187_2)) (ds := []) #[false, false, false, false, false, false, false, false, false, false] (by kernel_rfl) rfl rfl ⟨(cb HB hw186_0), (cb HB hw186_1), (cb HB hw186_2), (cb HB hw187_0), (cb HB hw187_1), (cb HB hw187_2)⟩ (fun hHeld => ?_); refine with_tabW laws_eqInS.tab6 laws_eqInS.bits6 (fun HT_ HW_ => ?_)
             generalize wr.drew = w11 at HB HR186_2 HR187_2 hx186_0 hx186_1 hx186_2 hx187_0 hx187_1 hx187_2 hHeld ⊢
             refine rP 0 (some 17) #[true, false, false, false, false, false, false, false, false, false] (any_of HT_.out (by kernel_rfl)) ?_
             refine rP 1 (some 18) #[true, true, false, false, false, false, false, false, false, false] (any_of HT_.out (by kernel_rfl)) ?_
             refine rP 2 (some 19) #[true, true, true, false, false, false, false, false, false, false] (any_of HT_.out (by kernel_rfl)) ?_
             refine rP 4 (some 21) #[true, true, true, false, true, false, false, false, false, false] (any_of HT_.out (by kernel_rfl)) ?_
             refine rP 5 (some 22) #[true, true, true, false, true, true, false, false, false, false] (any_of HT_.out (by kernel_rfl)) ?_
             refine rP 6 (some 23) #[true, true, true, false, true, true, true, false, false, false] (any_of HT_.out (by kernel_rfl)) ?_
             refine rT 3 (some 20) #[true, true, true, true, true, true, true, false, false, false] (take_ofW HT_.out HW_.out (by kernel_rfl)) hHeld ?_
             refine rT 7 (some 24) #[true, true, true, true, true, true, true, true, false, false] (take_ofW HT_.out HW_.out (by kernel_rfl)) hHeld ?_
             refine one_ (i := 8) (N := some 25) #[true, true, true, true, true, true, true, true, true, false] rfl rfl (one_of HT_.out (by kernel_rfl)) (by decide) (fun K hK => ?_)
             refine goes_ Try.func116 (by kernel_rfl) rfl #[.agg #[.int .i64 ((rd_T34 l0 x5_1).f0), .int .i64 ((rd_T34 l0 x5_1).f1), .slice A186_2 ((rd_T34 l0 x5_1).f2).length c186_2], .agg #[.int .i64 ((rd_T34 l1 x5_1).f0), .int .i64 ((rd_T34 l1 x5_1).f1), .slice A187_2 ((rd_T34 l1 x5_1).f2).length c187_2]] (by rfl) rfl rfl pA ?_
             with_reducible refine (laws_eqIn.calls k1 ((rd_T34 l0 x5_1).f0) ((rd_T34 l0 x5_1).f1) _ _ ((rd_T34 l0 x5_1).f2) ((rd_T34 l1 x5_1).f0) ((rd_T34 l1 x5_1).f1) _ _ ((rd_T34 l1 x5_1).f2) false _ ?side1 ?side2 ?side3 ?side4 A7.out).mono ?_
             (case side1 => exact pC (Kd.C_below HR186_2.out HB.out))
             (case side2 => exact HC186_2.out)
             (case side3 => exact pC (Kd.C_below HR187_2.out HB.out))
             (case side4 => exact HC187_2.out)
             rintro e w12 ⟨rfl, hb⟩
             refine ⟨_, rfl, ?_⟩
             have n_ := am (bz_ pB hb)
             clear HB; have HB := n_; clear n_; (try clear hb); (try clear hb2); (try clear hk); (try clear hi)
             refine hK.out _ _ ⟨(cb HB hw186_0), (cb HB hw186_1), (cb HB hw186_2), (cb HB hw187_0), (cb HB hw187_1), (cb HB hw187_2)⟩ (fun hHeld => ?_)
             clear hK K
             refine rN ?_
             refine rP 9 (some 26) #[true, true, true, true, true, true, true, true, true, true] (any_of HT_.out (by kernel_rfl)) ?_
             refine done_ (done_of HT_.out (by kernel_rfl)) ?_
             try go_wp2
             go_ret
             exact ⟨pE, pB⟩
         · rw [if_neg c6] at H
           exact absurd H (by simp)
       · rw [if_neg c5] at H
         exact absurd H (by simp)
     · rw [if_neg c4] at H
       have c4b0 : decide (x5_1 < (l0.length : Int)) = false := decide_eq_false c4
       clear c4
       obtain rfl := sj H
       go_wp2
       go_ret
       exact ⟨pE, pB⟩
 · rw [if_neg c3] at H
   have c3b0 : ((l0.length : Int) == (l1.length : Int)) = false := beq_eq_false_iff_ne.mpr c3
   have c3b1 : ((l0.length : Int) != (l1.length : Int)) = true := bne_iff_ne.mpr c3
   have c3b2 : (l0.length == l1.length) = false := by first | simpa using c3 | (simp at c3 ⊢; omega)
   obtain rfl := sj H
   go_enter Try.func66, Try.ntmps66
   go_wp2
   go_ret
   exact ⟨pE, pB⟩
def laws_eqOut.f (k : Nat) (a0_0 : Int) (l0_1 : List Int) (a1_0 : Int) (l1_1 : List Int) : Option (Bool) := if a0_0 = a1_0 then ((laws_eqInt64S.f k l0_1 l1_1).bind fun t191 => (if t191 = true then (some true) else (some false))) else (some false)
theorem laws_eqOut.mono : ∀ a0 a1 a2 a3 k, LeO (laws_eqOut.f k a0 a1 a2 a3) (laws_eqOut.f (k + 1) a0 a1 a2 a3) := by
 intro a0 a1 a2 a3 k
 unfold laws_eqOut.f
 repeat' with_reducible first | exact laws_eqInt64S.mono _ _ _ | exact LeO.refl _ | exact LeO.none _ | refine LeO.ite ?_ ?_ | refine LeO.bind ?_ (fun _ => ?_)
theorem laws_eqOut.calls (k : Nat) (a0_0 : Int) (A0_1 : Option Addr) (c0_1 : Nat) (l0_1 : List Int) (a1_0 : Int) (A1_1 : Option Addr) (c1_1 : Nat) (l1_1 : List Int) (r : Bool) (w : World) (hr0_1 : Kd.C (Kd.int .i64) w A0_1 l0_1.length l0_1) (hc0_1 : l0_1.length ≤ c0_1) (hr1_1 : Kd.C (Kd.int .i64) w A1_1 l1_1.length l1_1) (hc1_1 : l1_1.length ≤ c1_1) (h : laws_eqOut.f k a0_0 l0_1 a1_0 l1_1 = some r) :
 Calls Try.prog 117 #[.agg #[.int .i64 a0_0, .slice A0_1 l0_1.length c0_1], .agg #[.int .i64 a1_0, .slice A1_1 l1_1.length c1_1]] w fun e w' => e = .returned (.bool r) ∧ Below w.heap.size w w' := by
 have hu86 := Try.underlying86
 have HR0_1 := am hr0_1; have HC0_1 := am hc0_1; clear hr0_1 hc0_1; have HR1_1 := am hr1_1; have HC1_1 := am hc1_1; clear hr1_1 hc1_1
 have HB := am (Below.refl w.heap.size w)
 have H : (if a0_0 = a1_0 then ((laws_eqInt64S.f k l0_1 l1_1).bind fun t191 => (if t191 = true then (some true) else (some false))) else (some false)) = some r := h
 clear h
 by_cases c3 : a0_0 = a1_0
 · rw [if_pos c3] at H
   have c3b0 : (a0_0 == a1_0) = true := beq_iff_eq.mpr c3
   have c3b1 : (a0_0 != a1_0) = false := bne_eq_false_iff_eq.mpr c3
   clear c3
   obtain ⟨t191, A40, H⟩ := bO H
   replace H : (if t191 = true then (some true) else (some false)) = some r := H
   have A4 := am A40; clear A40
   by_cases c5 : t191 = true
   · subst c5
     have H1 : (some true) = some r := by rw [if_pos rfl] at H; exact H
     clear H; have H := H1; clear H1
     obtain rfl := sj H
     go_enter Try.func117, Try.ntmps117
     go_wp2_with (first | ((with_reducible refine gate_dst (N := 2) rfl ?_); refine box_event ?hg (N := 2) ?hd (cs := #[.int .i64 a0_0, .slice A0_1 l0_1.length c0_1]) (t := 86) ?hr ?_; (case hd => rfl); (case hg => rfl); (case hr => first | (go_simp; done) | (go_simp; rfl)); intro gb189 hg w6 hbox hb; have n_ := t4 (bz_ pB hb) (hbox) ((by rw [hg]; exact (bs_ pB) : w.heap.size ≤ gb189)) ((by rw [hg]; exact (bs_ pB) : w.heap.size ≤ gb189)); clear HB; obtain ⟨HB, BK189, GW189, GE189⟩ := n_; clear hb hbox hg) | ((with_reducible refine gate_dst (N := 3) rfl ?_); refine box_event ?hg (N := 3) ?hd (cs := #[.int .i64 a1_0, .slice A1_1 l1_1.length c1_1]) (t := 86) ?hr ?_; (case hd => rfl); (case hg => rfl); (case hr => first | (go_simp; done) | (go_simp; rfl)); intro gb190 hg w7 hbox hb; have n_ := t7 (blk_below (g := gb189) (o := .cells #[.int .i64 a0_0, .slice A0_1 l0_1.length c0_1] 86 (0, 0)) (pK BK189) hb) (bz_ pB hb) (hbox) ((by rw [hg]; exact (bs_ pB) : w.heap.size ≤ gb190)) ((by rw [hg]; exact (bs_ pB) : w.heap.size ≤ gb190)) ((by rw [hg]; exact Nat.ne_of_lt (blk_lt (g := gb189) (o := .cells #[.int .i64 a0_0, .slice A0_1 l0_1.length c0_1] 86 (0, 0)) (pK BK189)) : gb189 ≠ gb190)) ((by rw [hg]; exact Nat.ne_of_gt (blk_lt (g := gb189) (o := .cells #[.int .i64 a0_0, .slice A0_1 l0_1.length c0_1] 86 (0, 0)) (pK BK189)) : gb190 ≠ gb189)); clear BK189 HB; obtain ⟨BK189, HB, BK190, GW190, GE190, NB189_190, NB190_189⟩ := n_; clear hb hbox hg; have hnb8 := NB189_190.out; have hnc8 := NB190_189.out; have hcz9_0 : w7.cell? ⟨gb189, 0, none⟩ = some (.int .i64 a0_0) := (blk_cell BK189.out 0).trans rfl; have hcz9_1 : w7.cell? ⟨gb189, 1, none⟩ = some (.slice A0_1 l0_1.length c0_1) := (blk_cell BK189.out 1).trans rfl; have hfz9_0 := blk_frozen BK189.out 0; have hfz9_1 := blk_frozen BK189.out 1; have hcz10_0 : w7.cell? ⟨gb190, 0, none⟩ = some (.int .i64 a1_0) := (blk_cell BK190.out 0).trans rfl; have hcz10_1 : w7.cell? ⟨gb190, 1, none⟩ = some (.slice A1_1 l1_1.length c1_1) := (blk_cell BK190.out 1).trans rfl; have hfz10_0 := blk_frozen BK190.out 0; have hfz10_1 := blk_frozen BK190.out 1) | ((with_reducible refine gC (f := 145) rfl ?_); refine goesL_ (some 14) rfl rfl Try.func145 (by kernel_rfl) rfl #[.slice A0_1 l0_1.length c0_1, .slice A1_1 l1_1.length c1_1] rfl pA ?_; (with_reducible refine (laws_eqInt64S.calls k _ _ l0_1 _ _ l1_1 true _ ?side1 ?side2 ?side3 ?side4 A4.out).mono ?_); (case side1 => exact pC (Kd.C_below HR0_1.out HB.out)); (case side2 => exact HC0_1.out); (case side3 => exact pC (Kd.C_below HR1_1.out HB.out)); (case side4 => exact HC1_1.out); rintro e w' ⟨rfl, ⟨nd, rfl⟩⟩; refine ⟨_, rfl, ?_⟩))
     go_ret
     exact ⟨pE, pB⟩
   · replace c5 := Bool.eq_false_iff.mpr c5
     subst c5
     have H1 : (some false) = some r := by rw [if_neg (show ¬ (false = true) by decide)] at H; exact H
     clear H; have H := H1; clear H1
     obtain rfl := sj H
     go_enter Try.func117, Try.ntmps117
     go_wp2_with (first | ((with_reducible refine gate_dst (N := 2) rfl ?_); refine box_event ?hg (N := 2) ?hd (cs := #[.int .i64 a0_0, .slice A0_1 l0_1.length c0_1]) (t := 86) ?hr ?_; (case hd => rfl); (case hg => rfl); (case hr => first | (go_simp; done) | (go_simp; rfl)); intro gb189 hg w11 hbox hb; have n_ := t4 (bz_ pB hb) (hbox) ((by rw [hg]; exact (bs_ pB) : w.heap.size ≤ gb189)) ((by rw [hg]; exact (bs_ pB) : w.heap.size ≤ gb189)); clear HB; obtain ⟨HB, BK189, GW189, GE189⟩ := n_; clear hb hbox hg) | ((with_reducible refine gate_dst (N := 3) rfl ?_); refine box_event ?hg (N := 3) ?hd (cs := #[.int .i64 a1_0, .slice A1_1 l1_1.length c1_1]) (t := 86) ?hr ?_; (case hd => rfl); (case hg => rfl); (case hr => first | (go_simp; done) | (go_simp; rfl)); intro gb190 hg w12 hbox hb; have n_ := t7 (blk_below (g := gb189) (o := .cells #[.int .i64 a0_0, .slice A0_1 l0_1.length c0_1] 86 (0, 0)) (pK BK189) hb) (bz_ pB hb) (hbox) ((by rw [hg]; exact (bs_ pB) : w.heap.size ≤ gb190)) ((by rw [hg]; exact (bs_ pB) : w.heap.size ≤ gb190)) ((by rw [hg]; exact Nat.ne_of_lt (blk_lt (g := gb189) (o := .cells #[.int .i64 a0_0, .slice A0_1 l0_1.length c0_1] 86 (0, 0)) (pK BK189)) : gb189 ≠ gb190)) ((by rw [hg]; exact Nat.ne_of_gt (blk_lt (g := gb189) (o := .cells #[.int .i64 a0_0, .slice A0_1 l0_1.length c0_1] 86 (0, 0)) (pK BK189)) : gb190 ≠ gb189)); clear BK189 HB; obtain ⟨BK189, HB, BK190, GW190, GE190, NB189_190, NB190_189⟩ := n_; clear hb hbox hg; have hnb13 := NB189_190.out; have hnc13 := NB190_189.out; have hcz14_0 : w12.cell? ⟨gb189, 0, none⟩ = some (.int .i64 a0_0) := (blk_cell BK189.out 0).trans rfl; have hcz14_1 : w12.cell? ⟨gb189, 1, none⟩ = some (.slice A0_1 l0_1.length c0_1) := (blk_cell BK189.out 1).trans rfl; have hfz14_0 := blk_frozen BK189.out 0; have hfz14_1 := blk_frozen BK189.out 1; have hcz15_0 : w12.cell? ⟨gb190, 0, none⟩ = some (.int .i64 a1_0) := (blk_cell BK190.out 0).trans rfl; have hcz15_1 : w12.cell? ⟨gb190, 1, none⟩ = some (.slice A1_1 l1_1.length c1_1) := (blk_cell BK190.out 1).trans rfl; have hfz15_0 := blk_frozen BK190.out 0; have hfz15_1 := blk_frozen BK190.out 1) | ((with_reducible refine gC (f := 145) rfl ?_); refine goesL_ (some 14) rfl rfl Try.func145 (by kernel_rfl) rfl #[.slice A0_1 l0_1.length c0_1, .slice A1_1 l1_1.length c1_1] rfl pA ?_; (with_reducible refine (laws_eqInt64S.calls k _ _ l0_1 _ _ l1_1 false _ ?side1 ?side2 ?side3 ?side4 A4.out).mono ?_); (case side1 => exact pC (Kd.C_below HR0_1.out HB.out)); (case side2 => exact HC0_1.out); (case side3 => exact pC (Kd.C_below HR1_1.out HB.out)); (case side4 => exact HC1_1.out); rintro e w' ⟨rfl, ⟨nd, rfl⟩⟩; refine ⟨_, rfl, ?_⟩))
     go_ret
     exact ⟨pE, pB⟩
 · rw [if_neg c3] at H
   have c3b0 : (a0_0 == a1_0) = false := beq_eq_false_iff_ne.mpr c3
   have c3b1 : (a0_0 != a1_0) = true := bne_iff_ne.mpr c3
   obtain rfl := sj H
   go_enter Try.func117, Try.ntmps117
   go_wp2_with (first | ((with_reducible refine gate_dst (N := 2) rfl ?_); refine box_event ?hg (N := 2) ?hd (cs := #[.int .i64 a0_0, .slice A0_1 l0_1.length c0_1]) (t := 86) ?hr ?_; (case hd => rfl); (case hg => rfl); (case hr => first | (go_simp; done) | (go_simp; rfl)); intro gb189 hg w16 hbox hb; have n_ := t4 (bz_ pB hb) (hbox) ((by rw [hg]; exact (bs_ pB) : w.heap.size ≤ gb189)) ((by rw [hg]; exact (bs_ pB) : w.heap.size ≤ gb189)); clear HB; obtain ⟨HB, BK189, GW189, GE189⟩ := n_; clear hb hbox hg) | ((with_reducible refine gate_dst (N := 3) rfl ?_); refine box_event ?hg (N := 3) ?hd (cs := #[.int .i64 a1_0, .slice A1_1 l1_1.length c1_1]) (t := 86) ?hr ?_; (case hd => rfl); (case hg => rfl); (case hr => first | (go_simp; done) | (go_simp; rfl)); intro gb190 hg w17 hbox hb; have n_ := t7 (blk_below (g := gb189) (o := .cells #[.int .i64 a0_0, .slice A0_1 l0_1.length c0_1] 86 (0, 0)) (pK BK189) hb) (bz_ pB hb) (hbox) ((by rw [hg]; exact (bs_ pB) : w.heap.size ≤ gb190)) ((by rw [hg]; exact (bs_ pB) : w.heap.size ≤ gb190)) ((by rw [hg]; exact Nat.ne_of_lt (blk_lt (g := gb189) (o := .cells #[.int .i64 a0_0, .slice A0_1 l0_1.length c0_1] 86 (0, 0)) (pK BK189)) : gb189 ≠ gb190)) ((by rw [hg]; exact Nat.ne_of_gt (blk_lt (g := gb189) (o := .cells #[.int .i64 a0_0, .slice A0_1 l0_1.length c0_1] 86 (0, 0)) (pK BK189)) : gb190 ≠ gb189)); clear BK189 HB; obtain ⟨BK189, HB, BK190, GW190, GE190, NB189_190, NB190_189⟩ := n_; clear hb hbox hg; have hnb18 := NB189_190.out; have hnc18 := NB190_189.out; have hcz19_0 : w17.cell? ⟨gb189, 0, none⟩ = some (.int .i64 a0_0) := (blk_cell BK189.out 0).trans rfl; have hcz19_1 : w17.cell? ⟨gb189, 1, none⟩ = some (.slice A0_1 l0_1.length c0_1) := (blk_cell BK189.out 1).trans rfl; have hfz19_0 := blk_frozen BK189.out 0; have hfz19_1 := blk_frozen BK189.out 1; have hcz20_0 : w17.cell? ⟨gb190, 0, none⟩ = some (.int .i64 a1_0) := (blk_cell BK190.out 0).trans rfl; have hcz20_1 : w17.cell? ⟨gb190, 1, none⟩ = some (.slice A1_1 l1_1.length c1_1) := (blk_cell BK190.out 1).trans rfl; have hfz20_0 := blk_frozen BK190.out 0; have hfz20_1 := blk_frozen BK190.out 1))
   go_ret
   exact ⟨pE, pB⟩
def laws_eqOutS.l0 : Nat → List (S86) → List (S86) → Int → Option (Bool)
 | 0, _, _, _ => none
 | k + 1, x0, x1, x5 => if x5 < (x0.length : Int) then (if 0 ≤ x5 then (if x5 < (x1.length : Int) then ((laws_eqOut.f k ((rd_T86 x0 x5).f0) ((rd_T86 x0 x5).f1) ((rd_T86 x1 x5).f0) ((rd_T86 x1 x5).f1)).bind fun t194 => (if t194 = true then (laws_eqOutS.l0 k x0 x1 (wrap64 (x5 + 1))) else (some false))) else (none)) else (none)) else (some true)
def laws_eqOutS.f (k : Nat) (l0 : List (S86)) (l1 : List (S86)) : Option (Bool) := if (l0.length : Int) = (l1.length : Int) then (laws_eqOutS.l0 k l0 l1 0) else (some false)
theorem laws_eqOutS.mono_l : ∀ k, (∀ y0 y1 y2, LeO (laws_eqOutS.l0 k y0 y1 y2) (laws_eqOutS.l0 (k + 1) y0 y1 y2))
 | 0 => fun _ _ _ r h => by simp [laws_eqOutS.l0] at h
 | k + 1 => by
  have ih0 := laws_eqOutS.mono_l k
  · intro y0 y1 y2
    unfold laws_eqOutS.l0
    repeat' with_reducible first | exact ih0 _ _ _ | exact laws_eqOut.mono _ _ _ _ _ | exact LeO.refl _ | exact LeO.none _ | refine LeO.ite ?_ ?_ | refine LeO.bind ?_ (fun _ => ?_)
theorem laws_eqOutS.mono : ∀ a0 a1 k, LeO (laws_eqOutS.f k a0 a1) (laws_eqOutS.f (k + 1) a0 a1) := by
 intro a0 a1 k
 have ih0 := laws_eqOutS.mono_l k
 unfold laws_eqOutS.f
 repeat' with_reducible first | exact ih0 _ _ _ | exact laws_eqOut.mono _ _ _ _ _ | exact LeO.refl _ | exact LeO.none _ | refine LeO.ite ?_ ?_ | refine LeO.bind ?_ (fun _ => ?_)
def laws_eqOutS.T6 : Bool × List (List Nat × List Nat) := (true, [([], []), ([], []), ([0, 1], [0, 1]), ([2], [2]), ([], []), ([], []), ([4, 5], [4, 5]), ([6], [6]), ([3, 7], [3, 7]), ([8], [8])])
def laws_eqOutS.B6 : List Nat := [0, 0, 3, 7, 0, 0, 48, 112, 255, 511]
theorem laws_eqOutS.tab6 : rtab .any (opsOf Try.f67 6) = laws_eqOutS.T6 := by kernel_rfl
theorem laws_eqOutS.bits6 : waitsOk laws_eqOutS.T6.2 laws_eqOutS.B6 = true := by kernel_rfl
theorem laws_eqOutS.calls (k : Nat) (A0 : Option Addr) (c0 : Nat) (l0 : List (S86)) (A1 : Option Addr) (c1 : Nat) (l1 : List (S86)) (r : Bool) (w : World) (hr0 : Kd.C k86 w A0 l0.length l0) (hc0 : l0.length ≤ c0) (hr1 : Kd.C k86 w A1 l1.length l1) (hc1 : l1.length ≤ c1) (h : laws_eqOutS.f k l0 l1 = some r) :
 Calls Try.prog 67 #[.slice A0 l0.length c0, .slice A1 l1.length c1] w fun e w' => e = .returned (.bool r) ∧ Below w.heap.size w w' := by
 have hu86 := Try.underlying86
 have HR0 := am hr0; have HC0 := am hc0; clear hr0 hc0; have HR1 := am hr1; have HC1 := am hc1; clear hr1 hc1
 have HB := am (Below.refl w.heap.size w)
 have H : (if (l0.length : Int) = (l1.length : Int) then (laws_eqOutS.l0 k l0 l1 0) else (some false)) = some r := h
 clear h
 by_cases c3 : (l0.length : Int) = (l1.length : Int)
 · rw [if_pos c3] at H
   have c3b0 : ((l0.length : Int) == (l1.length : Int)) = true := beq_iff_eq.mpr c3
   have c3b1 : ((l0.length : Int) != (l1.length : Int)) = false := bne_eq_false_iff_eq.mpr c3
   have c3b2 : (l0.length == l1.length) = true := by first | simpa using c3 | (simp at c3 ⊢; omega)
   clear c3
   have H' := am H
   clear H
   go_enter Try.func67, Try.ntmps67
   go_wp2
   go_loopg [5] k (fun kq v5 w' => ∃ (x5_1 : Int), v5 = .int .i64 x5_1 ∧ Aside0 (laws_eqOutS.l0 kq l0 l1 x5_1 = some r) ∧ Aside0 (kq ≤ k) ∧ Aside0 (Below w.heap.size w w'))
   case atStart => exact ⟨(0), pF, H', ⟨Nat.le_refl _⟩, ⟨pB⟩⟩
   case round =>
    clear H'
    (try clear c1); (try clear c3); (try clear c3b0); (try clear c3b1); (try clear c3b2)
    obtain ⟨x5_1, rfl, HA, HK1, HB⟩ := hrel
    cases gk with
    | zero => exact absurd HA.out (by simp [laws_eqOutS.l0])
    | succ k1 =>
     have H := HA.out
     clear HA
     simp only [laws_eqOutS.l0] at H
     by_cases c4 : x5_1 < (l0.length : Int)
     · rw [if_pos c4] at H
       have c4b0 : decide (x5_1 < (l0.length : Int)) = true := dt c4
       clear c4
       by_cases c5 : 0 ≤ x5_1
       · rw [if_pos c5] at H
         have c5b0 : decide (0 ≤ x5_1) = true := dt c5
         clear c5
         by_cases c6 : x5_1 < (l1.length : Int)
         · rw [if_pos c6] at H
           have c6b0 : decide (x5_1 < (l1.length : Int)) = true := dt c6
           clear c6
           obtain ⟨t194, A70, H⟩ := bO H
           replace H : (if t194 = true then (laws_eqOutS.l0 k1 l0 l1 (wrap64 (x5_1 + 1))) else (some false)) = some r := H
           have A7 := am A70; clear A70
           by_cases c8 : t194 = true
           · subst c8
             have H1 : (laws_eqOutS.l0 k1 l0 l1 (wrap64 (x5_1 + 1))) = some r := by rw [if_pos rfl] at H; exact H
             clear H; have H := H1; clear H1
             have H' := am H
             clear H
             try go_wp2
             have n_ := am (below_drew1 HB.out)
             clear HB; have HB := n_; clear n_
             have p192 : 0 ≤ (x5_1 : Int) := pD
             have q192 : x5_1 < (l0.length : Int) := pD
             obtain ⟨ad192, A192_1, c192_1, e192, hx192_0, hx192_1, hl192_1, hi192_1⟩ := at_T86 HR0.out x5_1 p192 q192
             have hw192_1 := hx192_1
             have hw192_0 := hx192_0
             cases e192; replace hx192_0 := cb HB hx192_0; replace hx192_1 := cb HB hx192_1; have HR192_1 := am hi192_1; have HC192_1 := am hl192_1; clear hi192_1 hl192_1; replace p192 := eq_true p192; replace q192 := eq_true q192
             have p193 : 0 ≤ (x5_1 : Int) := pD
             have q193 : x5_1 < (l1.length : Int) := pD
             obtain ⟨ad193, A193_1, c193_1, e193, hx193_0, hx193_1, hl193_1, hi193_1⟩ := at_T86 HR1.out x5_1 p193 q193
             have hw193_1 := hx193_1
             have hw193_0 := hx193_0
             cases e193; replace hx193_0 := cb HB hx193_0; replace hx193_1 := cb HB hx193_1; have HR193_1 := am hi193_1; have HC193_1 := am hl193_1; clear hi193_1 hl193_1; replace p193 := eq_true p193; replace q193 := eq_true q193
             refine start_ (n := 10) (S := fun w' => w'.cell? (ad192.add ((x5_1).toNat * 2)) = some (.int .i64 ((rd_T86 l0 x5_1).f0)) ∧ w'.cell? ⟨(ad192.add ((x5_1).toNat * 2)).block, (ad192.add ((x5_1).toNat * 2)).off + 1, none⟩ = some (.slice A192_1 ((rd_T86 l0 x5_1).f1).length c192_1) ∧ w'.cell? (ad193.add ((x5_1).toNat * 2)) = some (.int .i64 ((rd_T86 l1 x5_1).f0)) ∧ w'.cell? ⟨(ad193.add ((x5_1).toNat * 2)).block, (ad193.add ((x5_1).toNat * 2)).off + 1, none⟩ = some (.slice A193_1 ((rd_T86 l1 x5_1).f1).length c193_1)) (ds := []) #[false, false, false, false, false, false, false, false, false, false] (by kernel_rfl) rfl rfl ⟨(cb HB hw192_0), (cb HB hw192_1), (cb HB hw193_0), (cb HB hw193_1)⟩ (fun hHeld => ?_); refine with_tabW laws_eqOutS.tab6 laws_eqOutS.bits6 (fun HT_ HW_ => ?_)
             generalize wr.drew = w9 at HB HR192_1 HR193_1 hx192_0 hx192_1 hx193_0 hx193_1 hHeld ⊢
             refine rP 0 (some 17) #[true, false, false, false, false, false, false, false, false, false] (any_of HT_.out (by kernel_rfl)) ?_
             refine rP 1 (some 18) #[true, true, false, false, false, false, false, false, false, false] (any_of HT_.out (by kernel_rfl)) ?_
             refine rP 2 (some 19) #[true, true, true, false, false, false, false, false, false, false] (any_of HT_.out (by kernel_rfl)) ?_
             refine rP 4 (some 21) #[true, true, true, false, true, false, false, false, false, false] (any_of HT_.out (by kernel_rfl)) ?_
             refine rP 5 (some 22) #[true, true, true, false, true, true, false, false, false, false] (any_of HT_.out (by kernel_rfl)) ?_
             refine rP 6 (some 23) #[true, true, true, false, true, true, true, false, false, false] (any_of HT_.out (by kernel_rfl)) ?_
             refine rT 3 (some 20) #[true, true, true, true, true, true, true, false, false, false] (take_ofW HT_.out HW_.out (by kernel_rfl)) hHeld ?_
             refine rT 7 (some 24) #[true, true, true, true, true, true, true, true, false, false] (take_ofW HT_.out HW_.out (by kernel_rfl)) hHeld ?_
             refine one_ (i := 8) (N := some 25) #[true, true, true, true, true, true, true, true, true, false] rfl rfl (one_of HT_.out (by kernel_rfl)) (by decide) (fun K hK => ?_)
             refine goes_ Try.func117 (by kernel_rfl) rfl #[.agg #[.int .i64 ((rd_T86 l0 x5_1).f0), .slice A192_1 ((rd_T86 l0 x5_1).f1).length c192_1], .agg #[.int .i64 ((rd_T86 l1 x5_1).f0), .slice A193_1 ((rd_T86 l1 x5_1).f1).length c193_1]] (by rfl) rfl rfl pA ?_
             with_reducible refine (laws_eqOut.calls k1 ((rd_T86 l0 x5_1).f0) _ _ ((rd_T86 l0 x5_1).f1) ((rd_T86 l1 x5_1).f0) _ _ ((rd_T86 l1 x5_1).f1) true _ ?side1 ?side2 ?side3 ?side4 A7.out).mono ?_
             (case side1 => exact pC (Kd.C_below HR192_1.out HB.out))
             (case side2 => exact HC192_1.out)
             (case side3 => exact pC (Kd.C_below HR193_1.out HB.out))
             (case side4 => exact HC193_1.out)
             rintro e w10 ⟨rfl, hb⟩
             refine ⟨_, rfl, ?_⟩
             have n_ := am (bz_ pB hb)
             clear HB; have HB := n_; clear n_; (try clear hb); (try clear hb2); (try clear hk); (try clear hi)
             refine hK.out _ _ ⟨(cb HB hw192_0), (cb HB hw192_1), (cb HB hw193_0), (cb HB hw193_1)⟩ (fun hHeld => ?_)
             clear hK K
             refine rN ?_
             refine rP 9 (some 26) #[true, true, true, true, true, true, true, true, true, true] (any_of HT_.out (by kernel_rfl)) ?_
             refine done_ (done_of HT_.out (by kernel_rfl)) ?_
             try go_wp2
             go_roundg k1
             case measure => have := HK1.out; omega
             case rel => exact ⟨(wrap64 (x5_1 + 1)), pF, H', ⟨by have := HK1.out; omega⟩, ⟨pB⟩⟩
           · replace c8 := Bool.eq_false_iff.mpr c8
             subst c8
             have H1 : (some false) = some r := by rw [if_neg (show ¬ (false = true) by decide)] at H; exact H
             clear H; have H := H1; clear H1
             obtain rfl := sj H
             try go_wp2
             have n_ := am (below_drew1 HB.out)
             clear HB; have HB := n_; clear n_
             have p192 : 0 ≤ (x5_1 : Int) := pD
             have q192 : x5_1 < (l0.length : Int) := pD
             obtain ⟨ad192, A192_1, c192_1, e192, hx192_0, hx192_1, hl192_1, hi192_1⟩ := at_T86 HR0.out x5_1 p192 q192
             have hw192_1 := hx192_1
             have hw192_0 := hx192_0
             cases e192; replace hx192_0 := cb HB hx192_0; replace hx192_1 := cb HB hx192_1; have HR192_1 := am hi192_1; have HC192_1 := am hl192_1; clear hi192_1 hl192_1; replace p192 := eq_true p192; replace q192 := eq_true q192
             have p193 : 0 ≤ (x5_1 : Int) := pD
             have q193 : x5_1 < (l1.length : Int) := pD
             obtain ⟨ad193, A193_1, c193_1, e193, hx193_0, hx193_1, hl193_1, hi193_1⟩ := at_T86 HR1.out x5_1 p193 q193
             have hw193_1 := hx193_1
             have hw193_0 := hx193_0
             cases e193; replace hx193_0 := cb HB hx193_0; replace hx193_1 := cb HB hx193_1; have HR193_1 := am hi193_1; have HC193_1 := am hl193_1; clear hi193_1 hl193_1; replace p193 := eq_true p193; replace q193 := eq_true q193
             refine start_ (n := 10) (S := fun w' => w'.cell? (ad192.add ((x5_1).toNat * 2)) = some (.int .i64 ((rd_T86 l0 x5_1).f0)) ∧ w'.cell? ⟨(ad192.add ((x5_1).toNat * 2)).block, (ad192.add ((x5_1).toNat * 2)).off + 1, none⟩ = some (.slice A192_1 ((rd_T86 l0 x5_1).f1).length c192_1) ∧ w'.cell? (ad193.add ((x5_1).toNat * 2)) = some (.int .i64 ((rd_T86 l1 x5_1).f0)) ∧ w'.cell? ⟨(ad193.add ((x5_1).toNat * 2)).block, (ad193.add ((x5_1).toNat * 2)).off + 1, none⟩ = some (.slice A193_1 ((rd_T86 l1 x5_1).f1).length c193_1)) (ds := []) #[false, false, false, false, false, false, false, false, false, false] (by kernel_rfl) rfl rfl ⟨(cb HB hw192_0), (cb HB hw192_1), (cb HB hw193_0), (cb HB hw193_1)⟩ (fun hHeld => ?_); refine with_tabW laws_eqOutS.tab6 laws_eqOutS.bits6 (fun HT_ HW_ => ?_)
             generalize wr.drew = w11 at HB HR192_1 HR193_1 hx192_0 hx192_1 hx193_0 hx193_1 hHeld ⊢
             refine rP 0 (some 17) #[true, false, false, false, false, false, false, false, false, false] (any_of HT_.out (by kernel_rfl)) ?_
             refine rP 1 (some 18) #[true, true, false, false, false, false, false, false, false, false] (any_of HT_.out (by kernel_rfl)) ?_
             refine rP 2 (some 19) #[true, true, true, false, false, false, false, false, false, false] (any_of HT_.out (by kernel_rfl)) ?_
             refine rP 4 (some 21) #[true, true, true, false, true, false, false, false, false, false] (any_of HT_.out (by kernel_rfl)) ?_
             refine rP 5 (some 22) #[true, true, true, false, true, true, false, false, false, false] (any_of HT_.out (by kernel_rfl)) ?_
             refine rP 6 (some 23) #[true, true, true, false, true, true, true, false, false, false] (any_of HT_.out (by kernel_rfl)) ?_
             refine rT 3 (some 20) #[true, true, true, true, true, true, true, false, false, false] (take_ofW HT_.out HW_.out (by kernel_rfl)) hHeld ?_
             refine rT 7 (some 24) #[true, true, true, true, true, true, true, true, false, false] (take_ofW HT_.out HW_.out (by kernel_rfl)) hHeld ?_
             refine one_ (i := 8) (N := some 25) #[true, true, true, true, true, true, true, true, true, false] rfl rfl (one_of HT_.out (by kernel_rfl)) (by decide) (fun K hK => ?_)
             refine goes_ Try.func117 (by kernel_rfl) rfl #[.agg #[.int .i64 ((rd_T86 l0 x5_1).f0), .slice A192_1 ((rd_T86 l0 x5_1).f1).length c192_1], .agg #[.int .i64 ((rd_T86 l1 x5_1).f0), .slice A193_1 ((rd_T86 l1 x5_1).f1).length c193_1]] (by rfl) rfl rfl pA ?_
             with_reducible refine (laws_eqOut.calls k1 ((rd_T86 l0 x5_1).f0) _ _ ((rd_T86 l0 x5_1).f1) ((rd_T86 l1 x5_1).f0) _ _ ((rd_T86 l1 x5_1).f1) false _ ?side1 ?side2 ?side3 ?side4 A7.out).mono ?_
             (case side1 => exact pC (Kd.C_below HR192_1.out HB.out))
             (case side2 => exact HC192_1.out)
             (case side3 => exact pC (Kd.C_below HR193_1.out HB.out))
             (case side4 => exact HC193_1.out)
             rintro e w12 ⟨rfl, hb⟩
             refine ⟨_, rfl, ?_⟩
             have n_ := am (bz_ pB hb)
             clear HB; have HB := n_; clear n_; (try clear hb); (try clear hb2); (try clear hk); (try clear hi)
             refine hK.out _ _ ⟨(cb HB hw192_0), (cb HB hw192_1), (cb HB hw193_0), (cb HB hw193_1)⟩ (fun hHeld => ?_)
             clear hK K
             refine rN ?_
             refine rP 9 (some 26) #[true, true, true, true, true, true, true, true, true, true] (any_of HT_.out (by kernel_rfl)) ?_
             refine done_ (done_of HT_.out (by kernel_rfl)) ?_
             try go_wp2
             go_ret
             exact ⟨pE, pB⟩
         · rw [if_neg c6] at H
           exact absurd H (by simp)
       · rw [if_neg c5] at H
         exact absurd H (by simp)
     · rw [if_neg c4] at H
       have c4b0 : decide (x5_1 < (l0.length : Int)) = false := decide_eq_false c4
       clear c4
       obtain rfl := sj H
       go_wp2
       go_ret
       exact ⟨pE, pB⟩
 · rw [if_neg c3] at H
   have c3b0 : ((l0.length : Int) == (l1.length : Int)) = false := beq_eq_false_iff_ne.mpr c3
   have c3b1 : ((l0.length : Int) != (l1.length : Int)) = true := bne_iff_ne.mpr c3
   have c3b2 : (l0.length == l1.length) = false := by first | simpa using c3 | (simp at c3 ⊢; omega)
   obtain rfl := sj H
   go_enter Try.func67, Try.ntmps67
   go_wp2
   go_ret
   exact ⟨pE, pB⟩
end Go.Proofs.Ythjlbpgiaehjnaa.QFnExactBlockRoot
