-- written by this session's program (wip/tools/myprint.py)
import Derived.Test.YthjlbpgiaehjnaaQFnExactPackTxx0
import Derived.Test.YthjlbpgiaehjnaaQFnExactPackTxx10
import Derived.Test.YthjlbpgiaehjnaaQFnExactPackTxx11
-- squeezed
namespace Go.Proofs.Ythjlbpgiaehjnaa.QFnExactPackTx
open Go.RowKit Go.Proofs.YthjlbpgiaehjnaaW.PrintWords Go.Proofs.YthjlbpgiaehjnaaW.PrintLast Go.Proofs.YthjlbpgiaehjnaaW.PrintMore
attribute [local go_sem] max2_int min2_int max_two min_two max_three min_three max_four min_four   -- for this text's walks alone
set_option linter.unusedVariables false
set_option linter.unusedSimpArgs false
set_option maxHeartbeats 8000000
set_option maxRecDepth 100000
mutual
def spec_l3Pack_in.l0 : Nat → List (S27) → Bool → List Int → Int → Option (List Int)
 | 0, _, _, _, _ => none
 | k + 1, x0, x1, x5, x6 => if 0 < (x0.length : Int) then (if x6 < (((rd_T27 x0 0).f1).length : Int) then (if 0 ≤ x6 then ((spec_l3Big.f ((rd_T34 ((rd_T27 x0 0).f1) x6).f0)).bind fun t374 => (if x5.length + t374.length < 140737488355328 then ((some (x5 ++ t374 : List Int)).bind fun y377 => ((spec_l3Put.f ((rd_T34 ((rd_T27 x0 0).f1) x6).f1)).bind fun t381 => (if y377.length + t381.length < 140737488355328 then ((some (y377 ++ t381 : List Int)).bind fun y384 => (if x1 = true then ((spec_l3List.f k ((rd_T34 ((rd_T27 x0 0).f1) x6).f2)).bind fun t389 => (if y384.length + t389.length < 140737488355328 then (spec_l3Pack_in.l0 k x0 x1 (y384 ++ t389) (wrap64 (x6 + 1))) else (none))) else (if y384.length < 140737488355328 then (spec_l3Pack_in.l0 k x0 x1 (y384 ++ [0]) (wrap64 (x6 + 1))) else (none)))) else (none)))) else (none))) else (none)) else ((spec_l3Put.f (((rd_T27 x0 0).f2).length : Int)).bind fun t399 => (if x5.length + t399.length < 140737488355328 then (spec_l3Pack_in.l1 k x0 (x5 ++ t399) 0) else (none)))) else (none)
def spec_l3Pack_in.l1 : Nat → List (S27) → List Int → Int → Option (List Int)
 | 0, _, _, _ => none
 | k + 1, x0, x5, x7 => if 0 < (x0.length : Int) then (if x7 < (((rd_T27 x0 0).f2).length : Int) then (if 0 ≤ x7 then ((spec_l3Big.f ((rd_T86 ((rd_T27 x0 0).f2) x7).f0)).bind fun t408 => (if x5.length + t408.length < 140737488355328 then ((some (x5 ++ t408 : List Int)).bind fun y411 => ((spec_l3List.f k ((rd_T86 ((rd_T27 x0 0).f2) x7).f1)).bind fun t415 => (if y411.length + t415.length < 140737488355328 then (spec_l3Pack_in.l1 k x0 (y411 ++ t415) (wrap64 (x7 + 1))) else (none)))) else (none))) else (none)) else (some x5)) else (none)
end
def spec_l3Pack_in.f (k : Nat) (l0 : List (S27)) (a1 : Bool) : Option (List Int) := if 0 < (l0.length : Int) then ((spec_l3Put.f ((rd_T27 l0 0).f0)).bind fun t362 => ((spec_l3Put.f (((rd_T27 l0 0).f1).length : Int)).bind fun t365 => (if t362.length + t365.length < 140737488355328 then (spec_l3Pack_in.l0 k l0 a1 (t362 ++ t365) 0) else (none)))) else (none)
theorem spec_l3Pack_in.mono_l : ∀ k, (∀ y0 y1 y2 y3, LeO (spec_l3Pack_in.l0 k y0 y1 y2 y3) (spec_l3Pack_in.l0 (k + 1) y0 y1 y2 y3)) ∧ (∀ y0 y1 y2, LeO (spec_l3Pack_in.l1 k y0 y1 y2) (spec_l3Pack_in.l1 (k + 1) y0 y1 y2))
 | 0 => ⟨fun _ _ _ _ r h => by simp [spec_l3Pack_in.l0] at h, fun _ _ _ r h => by simp [spec_l3Pack_in.l1] at h⟩
 | k + 1 => by
  obtain ⟨ih0, ih1⟩ := spec_l3Pack_in.mono_l k
  refine ⟨?_, ?_⟩
  · intro y0 y1 y2 y3
    unfold spec_l3Pack_in.l0
    repeat' with_reducible first | exact ih0 _ _ _ _ | exact ih1 _ _ _ | exact spec_l3List.mono _ _ | exact LeO.refl _ | exact LeO.none _ | refine LeO.ite ?_ ?_ | refine LeO.bind ?_ (fun _ => ?_)
  · intro y0 y1 y2
    unfold spec_l3Pack_in.l1
    repeat' with_reducible first | exact ih0 _ _ _ _ | exact ih1 _ _ _ | exact spec_l3List.mono _ _ | exact LeO.refl _ | exact LeO.none _ | refine LeO.ite ?_ ?_ | refine LeO.bind ?_ (fun _ => ?_)
theorem spec_l3Pack_in.mono : ∀ a0 a1 k, LeO (spec_l3Pack_in.f k a0 a1) (spec_l3Pack_in.f (k + 1) a0 a1) := by
 intro a0 a1 k
 obtain ⟨ih0, ih1⟩ := spec_l3Pack_in.mono_l k
 unfold spec_l3Pack_in.f
 repeat' with_reducible first | exact ih0 _ _ _ _ | exact ih1 _ _ _ | exact spec_l3List.mono _ _ | exact LeO.refl _ | exact LeO.none _ | refine LeO.ite ?_ ?_ | refine LeO.bind ?_ (fun _ => ?_)
def spec_l3Pack_in.T1 : Bool × List (List Nat × List Nat) := (true, [([], []), ([0], [0]), ([1], [1]), ([2], [2]), ([3], [3]), ([], []), ([5], [5]), ([6], [6]), ([7], [7]), ([8], [8]), ([9, 4], [9]), ([4, 10, 10], [4, 10]), ([11, 11, 0, 1, 2, 3, 4, 5, 6, 7, 8, 9, 10, 11], [11])])
def spec_l3Pack_in.B1 : List Nat := [0, 1, 3, 7, 15, 0, 32, 96, 224, 480, 1023, 2047, 4095]
theorem spec_l3Pack_in.tab1 : rtab .any (opsOf Try.f71 1) = spec_l3Pack_in.T1 := by kernel_rfl
theorem spec_l3Pack_in.bits1 : waitsOk spec_l3Pack_in.T1.2 spec_l3Pack_in.B1 = true := by kernel_rfl
def spec_l3Pack_in.T5 : Bool × List (List Nat × List Nat) := (true, [([], []), ([], []), ([1], [1]), ([2], [2]), ([3], [3]), ([], []), ([4, 5], [4, 5]), ([6], [6]), ([7], [7]), ([8], [8]), ([0, 9, 9], [0, 9]), ([], []), ([11], [11]), ([12], [12]), ([13], [13]), ([], []), ([14, 15], [14, 15]), ([16], [16]), ([17], [17]), ([18, 10], [18]), ([10, 19, 19], [10, 19]), ([20, 20, 0, 1, 2, 3, 4, 5, 6, 7, 8, 9, 10, 11, 12, 13, 14, 15, 16, 17, 18, 19, 20], [0, 20])])
def spec_l3Pack_in.B5 : List Nat := [0, 0, 2, 6, 14, 0, 62, 126, 254, 510, 1023, 0, 2048, 6144, 14336, 0, 63488, 129024, 260096, 524287, 1048575, 2097151]
theorem spec_l3Pack_in.tab5 : rtab .any (opsOf Try.f71 5) = spec_l3Pack_in.T5 := by kernel_rfl
theorem spec_l3Pack_in.bits5 : waitsOk spec_l3Pack_in.T5.2 spec_l3Pack_in.B5 = true := by kernel_rfl
def spec_l3Pack_in.T13 : Bool × List (List Nat × List Nat) := (true, [([], []), ([], []), ([1], [1]), ([2], [2]), ([3], [3]), ([], []), ([4, 5], [4, 5]), ([6], [6]), ([7], [7]), ([8], [8]), ([0, 9, 9], [0, 9]), ([], []), ([11], [11]), ([12], [12]), ([13], [13]), ([], []), ([14, 15], [14, 15]), ([16], [16]), ([17], [17]), ([18, 10], [18]), ([10, 19, 19], [10, 19]), ([20, 20, 0, 1, 2, 3, 4, 5, 6, 7, 8, 9, 10, 11, 12, 13, 14, 15, 16, 17, 18, 19, 20], [0, 20])])
def spec_l3Pack_in.B13 : List Nat := [0, 0, 2, 6, 14, 0, 62, 126, 254, 510, 1023, 0, 2048, 6144, 14336, 0, 63488, 129024, 260096, 524287, 1048575, 2097151]
theorem spec_l3Pack_in.tab13 : rtab .any (opsOf Try.f71 13) = spec_l3Pack_in.T13 := by kernel_rfl
theorem spec_l3Pack_in.bits13 : waitsOk spec_l3Pack_in.T13.2 spec_l3Pack_in.B13 = true := by kernel_rfl
theorem spec_l3Pack_in.calls (k : Nat) (A0 : Option Addr) (c0 : Nat) (l0 : List (S27)) (a1 : Bool) (r : List Int) (w : World) (hr0 : Kd.C k27 w A0 l0.length l0) (hc0 : l0.length ≤ c0) (h : spec_l3Pack_in.f k l0 a1 = some r) :
 Calls Try.prog 71 #[.pointer A0, .bool a1] w fun e w' => ∃ v0_ : Value, e = .returned (v0_) ∧ Kd.R (Kd.int .u8) 5 w' w.heap.size (fun _ => True) v0_ r ∧ Below w.heap.size w w' := by
 have HR0 := am hr0; have HC0 := am hc0; clear hr0 hc0
 have HB := am (Below.refl w.heap.size w)
 have H : (if 0 < (l0.length : Int) then ((spec_l3Put.f ((rd_T27 l0 0).f0)).bind fun t362 => ((spec_l3Put.f (((rd_T27 l0 0).f1).length : Int)).bind fun t365 => (if t362.length + t365.length < 140737488355328 then (spec_l3Pack_in.l0 k l0 a1 (t362 ++ t365) 0) else (none)))) else (none)) = some r := h
 clear h
 by_cases c3 : 0 < (l0.length : Int)
 · rw [if_pos c3] at H
   have c3b0 : decide (0 < (l0.length : Int)) = true := dt c3
   have c3b1 : decide (0 < l0.length) = true := dt (by omega)
   clear c3
   obtain ⟨t362, A40, H⟩ := bO H
   replace H : ((spec_l3Put.f (((rd_T27 l0 0).f1).length : Int)).bind fun t365 => (if t362.length + t365.length < 140737488355328 then (spec_l3Pack_in.l0 k l0 a1 (t362 ++ t365) 0) else (none))) = some r := H
   have A4 := am A40; clear A40
   obtain ⟨t365, A50, H⟩ := bO H
   replace H : (if t362.length + t365.length < 140737488355328 then (spec_l3Pack_in.l0 k l0 a1 (t362 ++ t365) 0) else (none)) = some r := H
   have A5 := am A50; clear A50
   by_cases c6 : t362.length + t365.length < 140737488355328
   · rw [if_pos c6] at H
     have LMc6 := am c6; clear c6
     obtain ⟨y368, hy368⟩ : ∃ y_ : List Int, y_ = (t362 ++ t365) := ⟨_, rfl⟩
     replace H : (spec_l3Pack_in.l0 k l0 a1 y368 0) = some r := by first | (rw [hy368]; with_reducible exact H) | (have H2_ := (Option.bind_some _ _).symm.trans H; rw [hy368]; with_reducible exact H2_) | (have H2_ := (Option.bind_some _ _).symm.trans H; with_reducible exact H2_) | with_reducible exact H | (rw [hy368]; exact H) | exact H
     have Ny368 := am hy368; clear hy368
     have H' := am H
     clear H
     go_enter Try.func71, Try.ntmps71
     try go_wp2
     have n_ := am (below_drew1 HB.out)
     clear HB; have HB := n_; clear n_
     have p361 : 0 ≤ (0 : Int) := (by omega)
     have q361 : 0 < (l0.length : Int) := pD
     obtain ⟨ad361, A361_1, c361_1, A361_2, c361_2, e361, hx361_0, hx361_1, hx361_2, hl361_1, hi361_1, hl361_2, hi361_2⟩ := at_T27 HR0.out 0 p361 q361
     have hw361_2 := hx361_2
     (try rw [z0, zm, az] at hw361_2)
     have hw361_1 := hx361_1
     (try rw [z0, zm, az] at hw361_1)
     have hw361_0 := hx361_0
     (try rw [z0, zm, az] at hw361_0); cases e361
     have qi361 : (0 < l0.length) = True := eq_true (by omega)
     (try rw [z0, zm, az] at hx361_0); (try rw [z0, zm, az] at hx361_1); (try rw [z0, zm, az] at hx361_2); replace hx361_0 := cb HB hx361_0; replace hx361_1 := cb HB hx361_1; replace hx361_2 := cb HB hx361_2; have HR361_1 := am hi361_1; have HC361_1 := am hl361_1; clear hi361_1 hl361_1; have HR361_2 := am hi361_2; have HC361_2 := am hl361_2; clear hi361_2 hl361_2; replace p361 := eq_true p361; replace q361 := eq_true q361
     refine start_ (n := 13) (S := fun w' => w'.cell? ad361 = some (.int .i64 ((rd_T27 l0 0).f0)) ∧ w'.cell? ⟨ad361.block, ad361.off + 1, none⟩ = some (.slice A361_1 ((rd_T27 l0 0).f1).length c361_1) ∧ w'.cell? ⟨ad361.block, ad361.off + 2, none⟩ = some (.slice A361_2 ((rd_T27 l0 0).f2).length c361_2)) (ds := []) #[false, false, false, false, false, false, false, false, false, false, false, false, false] (by kernel_rfl) rfl rfl ⟨(cb HB hw361_0), (cb HB hw361_1), (cb HB hw361_2)⟩ (fun hHeld => ?_); refine with_tabW spec_l3Pack_in.tab1 spec_l3Pack_in.bits1 (fun HT_ HW_ => ?_)
     generalize w.drew = w7 at HB HR361_1 HR361_2 hx361_0 hx361_1 hx361_2 hHeld ⊢
     refine rP 0 (some 8) #[true, false, false, false, false, false, false, false, false, false, false, false, false] (any_of HT_.out (by kernel_rfl)) ?_
     refine rP 1 (some 9) #[true, true, false, false, false, false, false, false, false, false, false, false, false] (any_of HT_.out (by kernel_rfl)) ?_
     refine rP 2 (some 10) #[true, true, true, false, false, false, false, false, false, false, false, false, false] (any_of HT_.out (by kernel_rfl)) ?_
     refine rP 5 (some 13) #[true, true, true, false, false, true, false, false, false, false, false, false, false] (any_of HT_.out (by kernel_rfl)) ?_
     refine rP 6 (some 14) #[true, true, true, false, false, true, true, false, false, false, false, false, false] (any_of HT_.out (by kernel_rfl)) ?_
     refine rP 7 (some 15) #[true, true, true, false, false, true, true, true, false, false, false, false, false] (any_of HT_.out (by kernel_rfl)) ?_
     refine rT 3 (some 11) #[true, true, true, true, false, true, true, true, false, false, false, false, false] (take_ofW HT_.out HW_.out (by kernel_rfl)) hHeld ?_
     refine rT 8 (some 16) #[true, true, true, true, false, true, true, true, true, false, false, false, false] (take_ofW HT_.out HW_.out (by kernel_rfl)) hHeld ?_
     refine rP 9 (some 17) #[true, true, true, true, false, true, true, true, true, true, false, false, false] (any_of HT_.out (by kernel_rfl)) ?_
     refine one_ (i := 4) (N := some 12) #[true, true, true, true, true, true, true, true, true, true, false, false, false] rfl rfl (one_of HT_.out (by kernel_rfl)) (by decide) (fun K hK => ?_)
     refine goes_ Try.func80 (by kernel_rfl) rfl #[.int .i64 ((rd_T27 l0 0).f0)] (by rfl) rfl rfl pA ?_
     with_reducible refine (spec_l3Put.calls ((rd_T27 l0 0).f0) t362 _ A4.out).mono ?_
     rintro e w8 ⟨v363, rfl, ho0, hb⟩
     refine ⟨_, rfl, ?_⟩
     have n_ := t2 (rL ho0 (bs_ pB)) (bz_ pB hb)
     clear HB; obtain ⟨HO364, HB⟩ := n_; (try clear hb); (try clear hb2); (try clear hk); (try clear hi); (try clear ho0)
     refine hK.out _ _ ⟨(cb HB hw361_0), (cb HB hw361_1), (cb HB hw361_2)⟩ (fun hHeld => ?_)
     clear hK K
     refine rN ?_
     refine one_ (i := 10) (N := some 18) #[true, true, true, true, true, true, true, true, true, true, true, false, false] rfl rfl (one_of HT_.out (by kernel_rfl)) (by decide) (fun K hK => ?_)
     refine goes_ Try.func80 (by kernel_rfl) rfl #[.int .i64 (((rd_T27 l0 0).f1).length : Int)] (by rfl) rfl rfl pA ?_
     with_reducible refine (spec_l3Put.calls (((rd_T27 l0 0).f1).length : Int) t365 _ A5.out).mono ?_
     rintro e w9 ⟨v366, rfl, ho0, hb⟩
     refine ⟨_, rfl, ?_⟩
     have n_ := t3 (rE (pR HO364) (rB ho0) hb) (rL (rW ho0 (Kd.R_lt (pR HO364))) (bs_ pB)) (bz_ pB hb)
     clear HO364 HB; obtain ⟨HO364, HO367, HB⟩ := n_; (try clear hb); (try clear hb2); (try clear hk); (try clear hi); (try clear ho0)
     obtain ⟨Ao11, co11, eo11⟩ := rS HO367.out
     (first | subst eo11 | (injection eo11 with f1_ f2_ f3_; have f4_ := f1_.symm; have f5_ := f3_.symm; clear f1_ f2_ f3_; subst f4_; subst f5_))
     refine hK.out _ _ ⟨(cb HB hw361_0), (cb HB hw361_1), (cb HB hw361_2)⟩ (fun hHeld => ?_)
     clear hK K
     refine rN ?_
     refine one_ (i := 11) (N := some 19) #[true, true, true, true, true, true, true, true, true, true, true, true, false] rfl rfl (one_of HT_.out (by kernel_rfl)) (by decide) (fun K hK => ?_)
     refine Kd.R_append_rows_step (Kd.int .u8) (w0 := w) w.heap.size (by rfl) (.tmp 12) (.tmp 18) 22 5 (.int .u8 0) 1 rfl Try.underlying22 info5 rfl (by decide) (by omega) v363 t362 t365 _ _ _ (fun k_ => some k_ ≠ (.slice Ao11 t365.length co11 : Value).ownBlock) (fun _ => False) rfl rfl ?aO ?aR (fun _ _ h => h) (fun _ h => h.elim) ?aF ?aB ?aS ?aL ?_
     (case aR => exact pC (rr HO367.out).2.2)
     (case aB => exact pB)
     (case aF => exact (fun k_ hk => Kd.fresh' (Kd.R_lt (pR HO367)) k_ hk))
     (case aO => exact (pT (Kd.R_mono HO364.out (fun _ hk => hk.2))))
     (case aS => exact (bs_ pB))
     (case aL => have := LMc6.out; omega)
     intro v369 w10 ho hb hg hat
     rw [← Ny368.out] at ho
     have n_ := t3 (Kd.R_after (ok := (fun _ => True)) (pR HO367) hg hat) (hb) (ho)
     clear HO367 HB HO364; obtain ⟨HO367, HB, HO370⟩ := n_; clear ho hb hg hat
     refine hK.out _ _ ⟨(cb HB hw361_0), (cb HB hw361_1), (cb HB hw361_2)⟩ (fun hHeld => ?_)
     clear hK K
     refine rN ?_
     refine rP 12 (some 5) #[true, true, true, true, true, true, true, true, true, true, true, true, true] (any_of HT_.out (by kernel_rfl)) ?_
     refine done_ (done_of HT_.out (by kernel_rfl)) ?_
     try go_wp2
     go_loopg [5, 6] k (fun kq v5 v6 w' => ∃ (x5_1 : List Int) (x6_1 : Int), v6 = .int .i64 x6_1 ∧ Aside0 (spec_l3Pack_in.l0 kq l0 a1 x5_1 x6_1 = some r) ∧ Aside0 (kq ≤ k) ∧ Aside0 (Kd.R (Kd.int .u8) 5 w' w.heap.size (fun _ => True) v5 x5_1) ∧ Aside0 (Below w.heap.size w w'))
     case atStart => exact ⟨(y368), (0), pF, H', ⟨Nat.le_refl _⟩, ⟨(pT (Kd.R_mono HO370.out (fun _ hk => trivial)))⟩, ⟨pB⟩⟩
     case round =>
      clear H'
      (try clear c3); (try clear c3b0); (try clear c3b1); (try clear c6); (try clear hx361_0); (try clear hx361_1); (try clear hx361_2); (try clear p361); (try clear q361)
      obtain ⟨x5_1, x6_1, rfl, HA, HK1, HO_5, HB⟩ := hrel
      cases gk with
      | zero => exact absurd HA.out (by simp [spec_l3Pack_in.l0])
      | succ k1 =>
       have H := HA.out
       clear HA
       simp only [spec_l3Pack_in.l0] at H
       by_cases c12 : 0 < (l0.length : Int)
       · rw [if_pos c12] at H
         have c12b0 : decide (0 < (l0.length : Int)) = true := dt c12
         have c12b1 : decide (0 < l0.length) = true := dt (by omega)
         clear c12
         by_cases c13 : x6_1 < (((rd_T27 l0 0).f1).length : Int)
         · rw [if_pos c13] at H
           have c13b0 : decide (x6_1 < (((rd_T27 l0 0).f1).length : Int)) = true := dt c13
           clear c13
           by_cases c14 : 0 ≤ x6_1
           · rw [if_pos c14] at H
             have c14b0 : decide (0 ≤ x6_1) = true := dt c14
             clear c14
             obtain ⟨t374, A150, H⟩ := bO H
             replace H : (if x5_1.length + t374.length < 140737488355328 then ((some (x5_1 ++ t374 : List Int)).bind fun y377 => ((spec_l3Put.f ((rd_T34 ((rd_T27 l0 0).f1) x6_1).f1)).bind fun t381 => (if y377.length + t381.length < 140737488355328 then ((some (y377 ++ t381 : List Int)).bind fun y384 => (if a1 = true then ((spec_l3List.f k1 ((rd_T34 ((rd_T27 l0 0).f1) x6_1).f2)).bind fun t389 => (if y384.length + t389.length < 140737488355328 then (spec_l3Pack_in.l0 k1 l0 a1 (y384 ++ t389) (wrap64 (x6_1 + 1))) else (none))) else (if y384.length < 140737488355328 then (spec_l3Pack_in.l0 k1 l0 a1 (y384 ++ [0]) (wrap64 (x6_1 + 1))) else (none)))) else (none)))) else (none)) = some r := H
             have A15 := am A150; clear A150
             by_cases c16 : x5_1.length + t374.length < 140737488355328
             · rw [if_pos c16] at H
               have LMc16 := am c16; clear c16
               obtain ⟨y377, hy377⟩ : ∃ y_ : List Int, y_ = (x5_1 ++ t374) := ⟨_, rfl⟩
               replace H : ((spec_l3Put.f ((rd_T34 ((rd_T27 l0 0).f1) x6_1).f1)).bind fun t381 => (if y377.length + t381.length < 140737488355328 then ((some (y377 ++ t381 : List Int)).bind fun y384 => (if a1 = true then ((spec_l3List.f k1 ((rd_T34 ((rd_T27 l0 0).f1) x6_1).f2)).bind fun t389 => (if y384.length + t389.length < 140737488355328 then (spec_l3Pack_in.l0 k1 l0 a1 (y384 ++ t389) (wrap64 (x6_1 + 1))) else (none))) else (if y384.length < 140737488355328 then (spec_l3Pack_in.l0 k1 l0 a1 (y384 ++ [0]) (wrap64 (x6_1 + 1))) else (none)))) else (none))) = some r := by first | (rw [hy377]; with_reducible exact H) | (have H2_ := (Option.bind_some _ _).symm.trans H; rw [hy377]; with_reducible exact H2_) | (have H2_ := (Option.bind_some _ _).symm.trans H; with_reducible exact H2_) | with_reducible exact H | (rw [hy377]; exact H) | exact H
               have Ny377 := am hy377; clear hy377
               obtain ⟨t381, A170, H⟩ := bO H
               replace H : (if y377.length + t381.length < 140737488355328 then ((some (y377 ++ t381 : List Int)).bind fun y384 => (if a1 = true then ((spec_l3List.f k1 ((rd_T34 ((rd_T27 l0 0).f1) x6_1).f2)).bind fun t389 => (if y384.length + t389.length < 140737488355328 then (spec_l3Pack_in.l0 k1 l0 a1 (y384 ++ t389) (wrap64 (x6_1 + 1))) else (none))) else (if y384.length < 140737488355328 then (spec_l3Pack_in.l0 k1 l0 a1 (y384 ++ [0]) (wrap64 (x6_1 + 1))) else (none)))) else (none)) = some r := H
               have A17 := am A170; clear A170
               by_cases c18 : y377.length + t381.length < 140737488355328
               · rw [if_pos c18] at H
                 have LMc18 := am c18; clear c18
                 obtain ⟨y384, hy384⟩ : ∃ y_ : List Int, y_ = (y377 ++ t381) := ⟨_, rfl⟩
                 replace H : (if a1 = true then ((spec_l3List.f k1 ((rd_T34 ((rd_T27 l0 0).f1) x6_1).f2)).bind fun t389 => (if y384.length + t389.length < 140737488355328 then (spec_l3Pack_in.l0 k1 l0 a1 (y384 ++ t389) (wrap64 (x6_1 + 1))) else (none))) else (if y384.length < 140737488355328 then (spec_l3Pack_in.l0 k1 l0 a1 (y384 ++ [0]) (wrap64 (x6_1 + 1))) else (none))) = some r := by first | (rw [hy384]; with_reducible exact H) | (have H2_ := (Option.bind_some _ _).symm.trans H; rw [hy384]; with_reducible exact H2_) | (have H2_ := (Option.bind_some _ _).symm.trans H; with_reducible exact H2_) | with_reducible exact H | (rw [hy384]; exact H) | exact H
                 have Ny384 := am hy384; clear hy384
                 by_cases c19 : a1 = true
                 · subst c19
                   have H1 : ((spec_l3List.f k1 ((rd_T34 ((rd_T27 l0 0).f1) x6_1).f2)).bind fun t389 => (if y384.length + t389.length < 140737488355328 then (spec_l3Pack_in.l0 k1 l0 true (y384 ++ t389) (wrap64 (x6_1 + 1))) else (none))) = some r := by rw [if_pos rfl] at H; exact H
                   clear H; have H := H1; clear H1
                   obtain ⟨t389, A200, H⟩ := bO H
                   replace H : (if y384.length + t389.length < 140737488355328 then (spec_l3Pack_in.l0 k1 l0 true (y384 ++ t389) (wrap64 (x6_1 + 1))) else (none)) = some r := H
                   have A20 := am A200; clear A200
                   by_cases c21 : y384.length + t389.length < 140737488355328
                   · rw [if_pos c21] at H
                     have LMc21 := am c21; clear c21
                     obtain ⟨y392, hy392⟩ : ∃ y_ : List Int, y_ = (y384 ++ t389) := ⟨_, rfl⟩
                     replace H : (spec_l3Pack_in.l0 k1 l0 true y392 (wrap64 (x6_1 + 1))) = some r := by first | (rw [hy392]; with_reducible exact H) | (have H2_ := (Option.bind_some _ _).symm.trans H; rw [hy392]; with_reducible exact H2_) | (have H2_ := (Option.bind_some _ _).symm.trans H; with_reducible exact H2_) | with_reducible exact H | (rw [hy392]; exact H) | exact H
                     have Ny392 := am hy392; clear hy392
                     have H' := am H
                     clear H
                     have p371 : 0 ≤ (0 : Int) := (by omega)
                     have q371 : 0 < (l0.length : Int) := pD
                     (try clear hx361_0); (try clear hx361_1); (try clear hx361_2); (try clear hHeld)
                     obtain ⟨ad371, A371_1, c371_1, A371_2, c371_2, e371, hx371_0, hx371_1, hx371_2, hl371_1, hi371_1, hl371_2, hi371_2⟩ := at_T27 HR0.out 0 p371 q371
                     obtain rfl : ad361 = ad371 := (by injection e371)
                     have qi371 : (0 < l0.length) = True := eq_true (by omega)
                     (try rw [z0, zm, az] at hx371_0); (try rw [z0, zm, az] at hx371_1); (try rw [z0, zm, az] at hx371_2); replace hx371_0 := cb HB hx371_0; replace hx371_1 := cb HB hx371_1; replace hx371_2 := cb HB hx371_2; have HR371_1 := am hi371_1; have HC371_1 := am hl371_1; clear hi371_1 hl371_1; have HR371_2 := am hi371_2; have HC371_2 := am hl371_2; clear hi371_2 hl371_2; replace p371 := eq_true p371; replace q371 := eq_true q371
                     try go_wp2
                     have n_ := t2 (Kd.R_drew HO_5.out) (below_drew1 HB.out)
                     clear HO_5 HB; obtain ⟨HO_5, HB⟩ := n_
                     have p372 : 0 ≤ (0 : Int) := (by omega)
                     have q372 : 0 < (l0.length : Int) := pD
                     (try clear hx371_0); (try clear hx371_1); (try clear hx371_2); (try clear hHeld)
                     obtain ⟨ad372, A372_1, c372_1, A372_2, c372_2, e372, hx372_0, hx372_1, hx372_2, hl372_1, hi372_1, hl372_2, hi372_2⟩ := at_T27 HR0.out 0 p372 q372
                     have hw372_2 := hx372_2
                     (try rw [z0, zm, az] at hw372_2)
                     have hw372_1 := hx372_1
                     (try rw [z0, zm, az] at hw372_1)
                     have hw372_0 := hx372_0
                     (try rw [z0, zm, az] at hw372_0)
                     obtain rfl : ad361 = ad372 := (by injection e372)
                     have qi372 : (0 < l0.length) = True := eq_true (by omega)
                     (try rw [z0, zm, az] at hx372_0); (try rw [z0, zm, az] at hx372_1); (try rw [z0, zm, az] at hx372_2); replace hx372_0 := cb HB hx372_0; replace hx372_1 := cb HB hx372_1; replace hx372_2 := cb HB hx372_2; have HR372_1 := am hi372_1; have HC372_1 := am hl372_1; clear hi372_1 hl372_1; have HR372_2 := am hi372_2; have HC372_2 := am hl372_2; clear hi372_2 hl372_2; replace p372 := eq_true p372; replace q372 := eq_true q372
                     have p373 : 0 ≤ (x6_1 : Int) := pD
                     have q373 : x6_1 < (((rd_T27 l0 0).f1).length : Int) := pD
                     obtain ⟨ad373, A373_2, c373_2, e373, hx373_0, hx373_1, hx373_2, hl373_2, hi373_2⟩ := at_T34 HR372_1.out x6_1 p373 q373
                     have hw373_2 := hx373_2
                     have hw373_1 := hx373_1
                     have hw373_0 := hx373_0
                     cases e373; replace hx373_0 := cb HB hx373_0; replace hx373_1 := cb HB hx373_1; replace hx373_2 := cb HB hx373_2; have HR373_2 := am hi373_2; have HC373_2 := am hl373_2; clear hi373_2 hl373_2; replace p373 := eq_true p373; replace q373 := eq_true q373
                     have p380 : 0 ≤ (x6_1 : Int) := pD
                     have q380 : x6_1 < (((rd_T27 l0 0).f1).length : Int) := pD
                     obtain ⟨ad380, A380_2, c380_2, e380, hx380_0, hx380_1, hx380_2, hl380_2, hi380_2⟩ := at_T34 HR372_1.out x6_1 p380 q380
                     have hw380_2 := hx380_2
                     have hw380_1 := hx380_1
                     have hw380_0 := hx380_0
                     obtain rfl : ad373 = ad380 := (by injection e380)
                     replace hx380_0 := cb HB hx380_0; replace hx380_1 := cb HB hx380_1; replace hx380_2 := cb HB hx380_2; have HR380_2 := am hi380_2; have HC380_2 := am hl380_2; clear hi380_2 hl380_2; replace p380 := eq_true p380; replace q380 := eq_true q380
                     have ea_ := sj (hx373_2.symm.trans hx380_2)
                     injection ea_ with ea_ en_ ec_
                     subst ea_; subst ec_; clear en_
                     refine start_ (n := 22) (S := fun w' => w'.cell? ad361 = some (.int .i64 ((rd_T27 l0 0).f0)) ∧ w'.cell? ⟨ad361.block, ad361.off + 1, none⟩ = some (.slice (some ad373) ((rd_T27 l0 0).f1).length c372_1) ∧ w'.cell? ⟨ad361.block, ad361.off + 2, none⟩ = some (.slice A372_2 ((rd_T27 l0 0).f2).length c372_2) ∧ w'.cell? (ad373.add ((x6_1).toNat * 3)) = some (.int .i64 ((rd_T34 ((rd_T27 l0 0).f1) x6_1).f0)) ∧ w'.cell? ⟨(ad373.add ((x6_1).toNat * 3)).block, (ad373.add ((x6_1).toNat * 3)).off + 1, none⟩ = some (.int .i64 ((rd_T34 ((rd_T27 l0 0).f1) x6_1).f1)) ∧ w'.cell? ⟨(ad373.add ((x6_1).toNat * 3)).block, (ad373.add ((x6_1).toNat * 3)).off + 2, none⟩ = some (.slice A373_2 ((rd_T34 ((rd_T27 l0 0).f1) x6_1).f2).length c373_2) ∧ w'.cell? (ad373.add ((x6_1).toNat * 3)) = some (.int .i64 ((rd_T34 ((rd_T27 l0 0).f1) x6_1).f0)) ∧ w'.cell? ⟨(ad373.add ((x6_1).toNat * 3)).block, (ad373.add ((x6_1).toNat * 3)).off + 1, none⟩ = some (.int .i64 ((rd_T34 ((rd_T27 l0 0).f1) x6_1).f1)) ∧ w'.cell? ⟨(ad373.add ((x6_1).toNat * 3)).block, (ad373.add ((x6_1).toNat * 3)).off + 2, none⟩ = some (.slice A373_2 ((rd_T34 ((rd_T27 l0 0).f1) x6_1).f2).length c373_2)) (ds := []) #[false, false, false, false, false, false, false, false, false, false, false, false, false, false, false, false, false, false, false, false, false, false] (by kernel_rfl) rfl rfl ⟨(cb HB hw372_0), (cb HB hw372_1), (cb HB hw372_2), (cb HB hw373_0), (cb HB hw373_1), (cb HB hw373_2), (cb HB hw380_0), (cb HB hw380_1), (cb HB hw380_2)⟩ (fun hHeld => ?_); refine with_tabW spec_l3Pack_in.tab5 spec_l3Pack_in.bits5 (fun HT_ HW_ => ?_)
                     generalize wr.drew = w22 at HO_5 HB HR372_1 HR372_2 HR373_2 HR380_2 hx372_0 hx372_1 hx372_2 hx373_0 hx373_1 hx373_2 hx380_0 hx380_1 hx380_2 hHeld ⊢
                     refine rP 0 (some 29) #[true, false, false, false, false, false, false, false, false, false, false, false, false, false, false, false, false, false, false, false, false, false] (any_of HT_.out (by kernel_rfl)) ?_
                     refine rP 1 (some 30) #[true, true, false, false, false, false, false, false, false, false, false, false, false, false, false, false, false, false, false, false, false, false] (any_of HT_.out (by kernel_rfl)) ?_
                     refine rP 2 (some 31) #[true, true, true, false, false, false, false, false, false, false, false, false, false, false, false, false, false, false, false, false, false, false] (any_of HT_.out (by kernel_rfl)) ?_
                     refine rP 3 (some 32) #[true, true, true, true, false, false, false, false, false, false, false, false, false, false, false, false, false, false, false, false, false, false] (any_of HT_.out (by kernel_rfl)) ?_
                     refine rP 5 (some 34) #[true, true, true, true, false, true, false, false, false, false, false, false, false, false, false, false, false, false, false, false, false, false] (any_of HT_.out (by kernel_rfl)) ?_
                     refine rP 11 (some 40) #[true, true, true, true, false, true, false, false, false, false, false, true, false, false, false, false, false, false, false, false, false, false] (any_of HT_.out (by kernel_rfl)) ?_
                     refine rP 12 (some 41) #[true, true, true, true, false, true, false, false, false, false, false, true, true, false, false, false, false, false, false, false, false, false] (any_of HT_.out (by kernel_rfl)) ?_
                     refine rP 13 (some 42) #[true, true, true, true, false, true, false, false, false, false, false, true, true, true, false, false, false, false, false, false, false, false] (any_of HT_.out (by kernel_rfl)) ?_
                     refine rP 15 (some 44) #[true, true, true, true, false, true, false, false, false, false, false, true, true, true, false, true, false, false, false, false, false, false] (any_of HT_.out (by kernel_rfl)) ?_
                     refine rT 4 (some 33) #[true, true, true, true, true, true, false, false, false, false, false, true, true, true, false, true, false, false, false, false, false, false] (take_ofW HT_.out HW_.out (by kernel_rfl)) hHeld ?_
                     refine rP 6 (some 35) #[true, true, true, true, true, true, true, false, false, false, false, true, true, true, false, true, false, false, false, false, false, false] (any_of HT_.out (by kernel_rfl)) ?_
                     refine rP 7 (some 36) #[true, true, true, true, true, true, true, true, false, false, false, true, true, true, false, true, false, false, false, false, false, false] (any_of HT_.out (by kernel_rfl)) ?_
                     refine rT 8 (some 37) #[true, true, true, true, true, true, true, true, true, false, false, true, true, true, false, true, false, false, false, false, false, false] (take_ofW HT_.out HW_.out (by kernel_rfl)) hHeld ?_
                     refine rT 14 (some 43) #[true, true, true, true, true, true, true, true, true, false, false, true, true, true, true, true, false, false, false, false, false, false] (take_ofW HT_.out HW_.out (by kernel_rfl)) hHeld ?_
                     refine rP 16 (some 45) #[true, true, true, true, true, true, true, true, true, false, false, true, true, true, true, true, true, false, false, false, false, false] (any_of HT_.out (by kernel_rfl)) ?_
                     refine rP 17 (some 46) #[true, true, true, true, true, true, true, true, true, false, false, true, true, true, true, true, true, true, false, false, false, false] (any_of HT_.out (by kernel_rfl)) ?_
                     refine rT 18 (some 47) #[true, true, true, true, true, true, true, true, true, false, false, true, true, true, true, true, true, true, true, false, false, false] (take_ofW HT_.out HW_.out (by kernel_rfl)) hHeld ?_
                     refine one_ (i := 9) (N := some 38) #[true, true, true, true, true, true, true, true, true, true, false, true, true, true, true, true, true, true, true, false, false, false] rfl rfl (one_of HT_.out (by kernel_rfl)) (by decide) (fun K hK => ?_)
                     refine goes_ Try.func125 (by kernel_rfl) rfl #[.int .i64 ((rd_T34 ((rd_T27 l0 0).f1) x6_1).f0)] (by rfl) rfl rfl pA ?_
                     with_reducible refine (spec_l3Big.calls ((rd_T34 ((rd_T27 l0 0).f1) x6_1).f0) t374 _ A15.out).mono ?_
                     rintro e w23 ⟨v375, rfl, ho0, hb⟩
                     refine ⟨_, rfl, ?_⟩
                     have n_ := t3 (rE (pR HO_5) (rB ho0) hb) (rL (rW ho0 (Kd.R_lt (pR HO_5))) (bs_ pB)) (bz_ pB hb)
                     clear HO_5 HB; obtain ⟨HO_5, HO376, HB⟩ := n_; (try clear hb); (try clear hb2); (try clear hk); (try clear hi); (try clear ho0)
                     obtain ⟨Ao25, co25, eo25⟩ := rS HO376.out
                     (first | subst eo25 | (injection eo25 with f1_ f2_ f3_; have f4_ := f1_.symm; have f5_ := f3_.symm; clear f1_ f2_ f3_; subst f4_; subst f5_))
                     refine hK.out _ _ ⟨(cb HB hw372_0), (cb HB hw372_1), (cb HB hw372_2), (cb HB hw373_0), (cb HB hw373_1), (cb HB hw373_2), (cb HB hw380_0), (cb HB hw380_1), (cb HB hw380_2)⟩ (fun hHeld => ?_)
                     clear hK K
                     refine rN ?_
                     refine one_ (i := 10) (N := some 39) #[true, true, true, true, true, true, true, true, true, true, true, true, true, true, true, true, true, true, true, false, false, false] rfl rfl (one_of HT_.out (by kernel_rfl)) (by decide) (fun K hK => ?_)
                     refine Kd.R_append_rows_step (Kd.int .u8) (w0 := w) w.heap.size (by rfl) (.tmp 29) (.tmp 38) 22 5 (.int .u8 0) 1 rfl Try.underlying22 info5 rfl (by decide) (by omega) u5 x5_1 t374 _ _ _ (fun k_ => some k_ ≠ (.slice Ao25 t374.length co25 : Value).ownBlock) (fun _ => False) rfl rfl ?aO ?aR (fun _ _ h => h) (fun _ h => h.elim) ?aF ?aB ?aS ?aL ?_
                     (case aR => exact pC (rr HO376.out).2.2)
                     (case aB => exact pB)
                     (case aF => exact (fun k_ hk => Kd.fresh' (Kd.R_lt (pR HO376)) k_ hk))
                     (case aO => exact (pT (Kd.R_mono HO_5.out (fun _ hk => hk.2))))
                     (case aS => exact (bs_ pB))
                     (case aL => have := LMc16.out; omega)
                     intro v378 w24 ho hb hg hat
                     rw [← Ny377.out] at ho
                     have n_ := t3 (Kd.R_after (ok := (fun _ => True)) (pR HO376) hg hat) (hb) (ho)
                     clear HO376 HB HO_5; obtain ⟨HO376, HB, HO379⟩ := n_; clear ho hb hg hat
                     refine hK.out _ _ ⟨(cb HB hw372_0), (cb HB hw372_1), (cb HB hw372_2), (cb HB hw373_0), (cb HB hw373_1), (cb HB hw373_2), (cb HB hw380_0), (cb HB hw380_1), (cb HB hw380_2)⟩ (fun hHeld => ?_)
                     clear hK K
                     refine rN ?_
                     refine one_ (i := 19) (N := some 48) #[true, true, true, true, true, true, true, true, true, true, true, true, true, true, true, true, true, true, true, true, false, false] rfl rfl (one_of HT_.out (by kernel_rfl)) (by decide) (fun K hK => ?_)
                     refine goes_ Try.func80 (by kernel_rfl) rfl #[.int .i64 ((rd_T34 ((rd_T27 l0 0).f1) x6_1).f1)] (by rfl) rfl rfl pA ?_
                     with_reducible refine (spec_l3Put.calls ((rd_T34 ((rd_T27 l0 0).f1) x6_1).f1) t381 _ A17.out).mono ?_
                     rintro e w26 ⟨v382, rfl, ho0, hb⟩
                     refine ⟨_, rfl, ?_⟩
                     have n_ := t4 (rE (pR HO376) (rB ho0) hb) (rE (pR HO379) (rB ho0) hb) (rL (rW (rW ho0 (Kd.R_lt (pR HO376))) (Kd.R_lt (pR HO379))) (bs_ pB)) (bz_ pB hb)
                     clear HO376 HO379 HB; obtain ⟨HO376, HO379, HO383, HB⟩ := n_; (try clear hb); (try clear hb2); (try clear hk); (try clear hi); (try clear ho0)
                     obtain ⟨Ao28, co28, eo28⟩ := rS HO383.out
                     (first | subst eo28 | (injection eo28 with f1_ f2_ f3_; have f4_ := f1_.symm; have f5_ := f3_.symm; clear f1_ f2_ f3_; subst f4_; subst f5_))
                     refine hK.out _ _ ⟨(cb HB hw372_0), (cb HB hw372_1), (cb HB hw372_2), (cb HB hw373_0), (cb HB hw373_1), (cb HB hw373_2), (cb HB hw380_0), (cb HB hw380_1), (cb HB hw380_2)⟩ (fun hHeld => ?_)
                     clear hK K
                     refine rN ?_
                     refine one_ (i := 20) (N := some 49) #[true, true, true, true, true, true, true, true, true, true, true, true, true, true, true, true, true, true, true, true, true, false] rfl rfl (one_of HT_.out (by kernel_rfl)) (by decide) (fun K hK => ?_)
                     refine Kd.R_append_rows_step (Kd.int .u8) (w0 := w) w.heap.size (by rfl) (.tmp 39) (.tmp 48) 22 5 (.int .u8 0) 1 rfl Try.underlying22 info5 rfl (by decide) (by omega) v378 y377 t381 _ _ _ (fun k_ => some k_ ≠ (.slice Ao25 t374.length co25 : Value).ownBlock ∧ some k_ ≠ (.slice Ao28 t381.length co28 : Value).ownBlock) (fun _ => False) rfl rfl ?aO ?aR (fun _ _ h => h) (fun _ h => h.elim) ?aF ?aB ?aS ?aL ?_
                     (case aR => exact pC (rr HO383.out).2.2)
                     (case aB => exact pB)
                     (case aF => exact (fun k_ hk => ⟨Kd.fresh' (Kd.R_lt (pR HO376)) k_ hk, Kd.fresh' (Kd.R_lt (pR HO383)) k_ hk⟩))
                     (case aO => exact (pR HO379))
                     (case aS => exact (bs_ pB))
                     (case aL => have := LMc18.out; omega)
                     intro v385 w27 ho hb hg hat
                     rw [← Ny384.out] at ho
                     have n_ := t4 (Kd.R_after (ok := (fun k_ => some k_ ≠ (.slice Ao28 t381.length co28 : Value).ownBlock)) (pT (Kd.R_mono HO376.out (fun _ hk => ⟨hk.2, hk.1.2⟩))) hg hat) (Kd.R_after (ok := (fun k_ => some k_ ≠ (.slice Ao25 t374.length co25 : Value).ownBlock)) (pT (Kd.R_mono HO383.out (fun _ hk => ⟨hk.1.2, hk.2⟩))) hg hat) (hb) (ho)
                     clear HO376 HO383 HB HO379; obtain ⟨HO376, HO383, HB, HO386⟩ := n_; clear ho hb hg hat
                     refine hK.out _ _ ⟨(cb HB hw372_0), (cb HB hw372_1), (cb HB hw372_2), (cb HB hw373_0), (cb HB hw373_1), (cb HB hw373_2), (cb HB hw380_0), (cb HB hw380_1), (cb HB hw380_2)⟩ (fun hHeld => ?_)
                     clear hK K
                     refine rN ?_
                     refine rP 21 (some 5) #[true, true, true, true, true, true, true, true, true, true, true, true, true, true, true, true, true, true, true, true, true, true] (any_of HT_.out (by kernel_rfl)) ?_
                     refine done_ (done_of HT_.out (by kernel_rfl)) ?_
                     have p387 : 0 ≤ (0 : Int) := (by omega)
                     have q387 : 0 < (l0.length : Int) := pD
                     (try clear hx372_0); (try clear hx372_1); (try clear hx372_2); (try clear hx373_0); (try clear hx373_1); (try clear hx373_2); (try clear hx380_0); (try clear hx380_1); (try clear hx380_2); (try clear hHeld)
                     obtain ⟨ad387, A387_1, c387_1, A387_2, c387_2, e387, hx387_0, hx387_1, hx387_2, hl387_1, hi387_1, hl387_2, hi387_2⟩ := at_T27 HR0.out 0 p387 q387
                     obtain rfl : ad361 = ad387 := (by injection e387)
                     have qi387 : (0 < l0.length) = True := eq_true (by omega)
                     (try rw [z0, zm, az] at hx387_0); (try rw [z0, zm, az] at hx387_1); (try rw [z0, zm, az] at hx387_2); replace hx387_0 := cb HB hx387_0; replace hx387_1 := cb HB hx387_1; replace hx387_2 := cb HB hx387_2; have HR387_1 := am hi387_1; have HC387_1 := am hl387_1; clear hi387_1 hl387_1; have HR387_2 := am hi387_2; have HC387_2 := am hl387_2; clear hi387_2 hl387_2; replace p387 := eq_true p387; replace q387 := eq_true q387
                     have p388 : 0 ≤ (x6_1 : Int) := pD
                     have q388 : x6_1 < (((rd_T27 l0 0).f1).length : Int) := pD
                     obtain ⟨ad388, A388_2, c388_2, e388, hx388_0, hx388_1, hx388_2, hl388_2, hi388_2⟩ := at_T34 HR387_1.out x6_1 p388 q388
                     cases e388; replace hx388_0 := cb HB hx388_0; replace hx388_1 := cb HB hx388_1; replace hx388_2 := cb HB hx388_2; have HR388_2 := am hi388_2; have HC388_2 := am hl388_2; clear hi388_2 hl388_2; replace p388 := eq_true p388; replace q388 := eq_true q388
                     try go_wp2_with (first | ((with_reducible refine gC (f := 126) rfl ?_); refine goesL_ (some 60) rfl rfl Try.func126 (by kernel_rfl) rfl #[.slice A388_2 ((rd_T34 ((rd_T27 l0 0).f1) x6_1).f2).length c388_2] rfl pA ?_; (with_reducible refine (spec_l3List.calls k1 _ _ ((rd_T34 ((rd_T27 l0 0).f1) x6_1).f2) t389 _ ?side1 ?side2 A20.out).mono ?_); (case side1 => exact pC (Kd.C_below HR388_2.out HB.out)); (case side2 => exact HC388_2.out); rintro e w29 ⟨v390, rfl, ho0, hb⟩; refine ⟨_, rfl, ?_⟩; have n_ := t5 (rE (pR HO376) (rB ho0) hb) (rE (pR HO383) (rB ho0) hb) (rE (pR HO386) (rB ho0) hb) (rL (rW (rW (rW ho0 (Kd.R_lt (pR HO376))) (Kd.R_lt (pR HO383))) (Kd.R_lt (pR HO386))) (bs_ pB)) (bz_ pB hb); clear HO376 HO383 HO386 HB; obtain ⟨HO376, HO383, HO386, HO391, HB⟩ := n_; (try clear hb); (try clear ho0); obtain ⟨Ao31, co31, eo31⟩ := rS HO391.out; subst eo31) | ((with_reducible refine gB (b := .append) (xs := #[.tmp 51, .tmp 60]) rfl ?_); at_builtin; refine Kd.R_append_rows (Kd.int .u8) (w0 := w) w.heap.size rfl (.tmp 51) (.tmp 60) 22 5 (.int .u8 0) 1 rfl Try.underlying22 info5 rfl (by decide) (by omega) v385 y384 t389 _ _ _ (fun k_ => some k_ ≠ (.slice Ao25 t374.length co25 : Value).ownBlock ∧ some k_ ≠ (.slice Ao28 t381.length co28 : Value).ownBlock ∧ some k_ ≠ (.slice Ao31 t389.length co31 : Value).ownBlock) (fun _ => False) rfl rfl ?aO ?aR (fun _ _ h => h) (fun _ h => h.elim) ?aF ?aB ?aS ?aL ?_; (case aR => exact pC (rr HO391.out).2.2); (case aB => exact pB); (case aF => exact (fun k_ hk => ⟨Kd.fresh' (Kd.R_lt (pR HO376)) k_ hk, Kd.fresh' (Kd.R_lt (pR HO383)) k_ hk, Kd.fresh' (Kd.R_lt (pR HO391)) k_ hk⟩)); (case aO => exact (pT (Kd.R_mono HO386.out (fun _ hk => ⟨hk.1.1, ⟨hk.1.2, hk.2⟩⟩)))); (case aS => exact (bs_ pB)); (case aL => have := LMc21.out; omega); intro v393 w30 ho hb hg hat; rw [← Ny392.out] at ho; have n_ := t5 (Kd.R_after (ok := (fun k_ => some k_ ≠ (.slice Ao28 t381.length co28 : Value).ownBlock ∧ some k_ ≠ (.slice Ao31 t389.length co31 : Value).ownBlock)) (pT (Kd.R_mono HO376.out (fun _ hk => ⟨⟨hk.1.1, hk.2⟩, hk.1.2⟩))) hg hat) (Kd.R_after (ok := (fun k_ => some k_ ≠ (.slice Ao25 t374.length co25 : Value).ownBlock ∧ some k_ ≠ (.slice Ao31 t389.length co31 : Value).ownBlock)) (pT (Kd.R_mono HO383.out (fun _ hk => ⟨⟨hk.1.1, hk.2⟩, hk.1.2⟩))) hg hat) (Kd.R_after (ok := (fun k_ => some k_ ≠ (.slice Ao25 t374.length co25 : Value).ownBlock ∧ some k_ ≠ (.slice Ao28 t381.length co28 : Value).ownBlock)) (pT (Kd.R_mono HO391.out (fun _ hk => ⟨⟨hk.1.1.2, hk.1.2⟩, hk.2⟩))) hg hat) (hb) (ho); clear HO376 HO383 HO391 HB HO386; obtain ⟨HO376, HO383, HO391, HB, HO394⟩ := n_; clear ho hb hg hat))
                     go_roundg k1
                     case measure => have := HK1.out; omega
                     case rel => exact ⟨(y392), (wrap64 (x6_1 + 1)), pF, H', ⟨by have := HK1.out; omega⟩, ⟨(pT (Kd.R_mono HO394.out (fun _ hk => trivial)))⟩, ⟨pB⟩⟩
                   · rw [if_neg c21] at H
                     exact absurd H (by simp)
                 · replace c19 := Bool.eq_false_iff.mpr c19
                   subst c19
                   have H1 : (if y384.length < 140737488355328 then (spec_l3Pack_in.l0 k1 l0 false (y384 ++ [0]) (wrap64 (x6_1 + 1))) else (none)) = some r := by rw [if_neg (show ¬ (false = true) by decide)] at H; exact H
                   clear H; have H := H1; clear H1
                   by_cases c32 : y384.length < 140737488355328
                   · rw [if_pos c32] at H
                     have LMc32 := am c32; clear c32
                     obtain ⟨y395, hy395⟩ : ∃ y_ : List Int, y_ = (y384 ++ [0]) := ⟨_, rfl⟩
                     replace H : (spec_l3Pack_in.l0 k1 l0 false y395 (wrap64 (x6_1 + 1))) = some r := by first | (rw [hy395]; with_reducible exact H) | (have H2_ := (Option.bind_some _ _).symm.trans H; rw [hy395]; with_reducible exact H2_) | (have H2_ := (Option.bind_some _ _).symm.trans H; with_reducible exact H2_) | with_reducible exact H | (rw [hy395]; exact H) | exact H
                     have Ny395 := am hy395; clear hy395
                     have H' := am H
                     clear H
                     have p371 : 0 ≤ (0 : Int) := (by omega)
                     have q371 : 0 < (l0.length : Int) := pD
                     obtain ⟨ad371, A371_1, c371_1, A371_2, c371_2, e371, hx371_0, hx371_1, hx371_2, hl371_1, hi371_1, hl371_2, hi371_2⟩ := at_T27 HR0.out 0 p371 q371
                     obtain rfl : ad361 = ad371 := (by injection e371)
                     have qi371 : (0 < l0.length) = True := eq_true (by omega)
                     (try rw [z0, zm, az] at hx371_0); (try rw [z0, zm, az] at hx371_1); (try rw [z0, zm, az] at hx371_2); replace hx371_0 := cb HB hx371_0; replace hx371_1 := cb HB hx371_1; replace hx371_2 := cb HB hx371_2; have HR371_1 := am hi371_1; have HC371_1 := am hl371_1; clear hi371_1 hl371_1; have HR371_2 := am hi371_2; have HC371_2 := am hl371_2; clear hi371_2 hl371_2; replace p371 := eq_true p371; replace q371 := eq_true q371
                     try go_wp2
                     have n_ := t2 (Kd.R_drew HO_5.out) (below_drew1 HB.out)
                     clear HO_5 HB; obtain ⟨HO_5, HB⟩ := n_
                     have p372 : 0 ≤ (0 : Int) := (by omega)
                     have q372 : 0 < (l0.length : Int) := pD
                     (try clear hx371_0); (try clear hx371_1); (try clear hx371_2); (try clear hHeld)
                     obtain ⟨ad372, A372_1, c372_1, A372_2, c372_2, e372, hx372_0, hx372_1, hx372_2, hl372_1, hi372_1, hl372_2, hi372_2⟩ := at_T27 HR0.out 0 p372 q372
                     have hw372_2 := hx372_2
                     (try rw [z0, zm, az] at hw372_2)
                     have hw372_1 := hx372_1
                     (try rw [z0, zm, az] at hw372_1)
                     have hw372_0 := hx372_0
                     (try rw [z0, zm, az] at hw372_0)
                     obtain rfl : ad361 = ad372 := (by injection e372)
                     have qi372 : (0 < l0.length) = True := eq_true (by omega)
                     (try rw [z0, zm, az] at hx372_0); (try rw [z0, zm, az] at hx372_1); (try rw [z0, zm, az] at hx372_2); replace hx372_0 := cb HB hx372_0; replace hx372_1 := cb HB hx372_1; replace hx372_2 := cb HB hx372_2; have HR372_1 := am hi372_1; have HC372_1 := am hl372_1; clear hi372_1 hl372_1; have HR372_2 := am hi372_2; have HC372_2 := am hl372_2; clear hi372_2 hl372_2; replace p372 := eq_true p372; replace q372 := eq_true q372
                     have p373 : 0 ≤ (x6_1 : Int) := pD
                     have q373 : x6_1 < (((rd_T27 l0 0).f1).length : Int) := pD
                     obtain ⟨ad373, A373_2, c373_2, e373, hx373_0, hx373_1, hx373_2, hl373_2, hi373_2⟩ := at_T34 HR372_1.out x6_1 p373 q373
                     have hw373_2 := hx373_2
                     have hw373_1 := hx373_1
                     have hw373_0 := hx373_0
                     cases e373; replace hx373_0 := cb HB hx373_0; replace hx373_1 := cb HB hx373_1; replace hx373_2 := cb HB hx373_2; have HR373_2 := am hi373_2; have HC373_2 := am hl373_2; clear hi373_2 hl373_2; replace p373 := eq_true p373; replace q373 := eq_true q373
                     have p380 : 0 ≤ (x6_1 : Int) := pD
                     have q380 : x6_1 < (((rd_T27 l0 0).f1).length : Int) := pD
                     obtain ⟨ad380, A380_2, c380_2, e380, hx380_0, hx380_1, hx380_2, hl380_2, hi380_2⟩ := at_T34 HR372_1.out x6_1 p380 q380
                     have hw380_2 := hx380_2
                     have hw380_1 := hx380_1
                     have hw380_0 := hx380_0
                     obtain rfl : ad373 = ad380 := (by injection e380)
                     replace hx380_0 := cb HB hx380_0; replace hx380_1 := cb HB hx380_1; replace hx380_2 := cb HB hx380_2; have HR380_2 := am hi380_2; have HC380_2 := am hl380_2; clear hi380_2 hl380_2; replace p380 := eq_true p380; replace q380 := eq_true q380
                     have ea_ := sj (hx373_2.symm.trans hx380_2)
                     injection ea_ with ea_ en_ ec_
                     subst ea_; subst ec_; clear en_
                     refine start_ (n := 22) (S := fun w' => w'.cell? ad361 = some (.int .i64 ((rd_T27 l0 0).f0)) ∧ w'.cell? ⟨ad361.block, ad361.off + 1, none⟩ = some (.slice (some ad373) ((rd_T27 l0 0).f1).length c372_1) ∧ w'.cell? ⟨ad361.block, ad361.off + 2, none⟩ = some (.slice A372_2 ((rd_T27 l0 0).f2).length c372_2) ∧ w'.cell? (ad373.add ((x6_1).toNat * 3)) = some (.int .i64 ((rd_T34 ((rd_T27 l0 0).f1) x6_1).f0)) ∧ w'.cell? ⟨(ad373.add ((x6_1).toNat * 3)).block, (ad373.add ((x6_1).toNat * 3)).off + 1, none⟩ = some (.int .i64 ((rd_T34 ((rd_T27 l0 0).f1) x6_1).f1)) ∧ w'.cell? ⟨(ad373.add ((x6_1).toNat * 3)).block, (ad373.add ((x6_1).toNat * 3)).off + 2, none⟩ = some (.slice A373_2 ((rd_T34 ((rd_T27 l0 0).f1) x6_1).f2).length c373_2) ∧ w'.cell? (ad373.add ((x6_1).toNat * 3)) = some (.int .i64 ((rd_T34 ((rd_T27 l0 0).f1) x6_1).f0)) ∧ w'.cell? ⟨(ad373.add ((x6_1).toNat * 3)).block, (ad373.add ((x6_1).toNat * 3)).off + 1, none⟩ = some (.int .i64 ((rd_T34 ((rd_T27 l0 0).f1) x6_1).f1)) ∧ w'.cell? ⟨(ad373.add ((x6_1).toNat * 3)).block, (ad373.add ((x6_1).toNat * 3)).off + 2, none⟩ = some (.slice A373_2 ((rd_T34 ((rd_T27 l0 0).f1) x6_1).f2).length c373_2)) (ds := []) #[false, false, false, false, false, false, false, false, false, false, false, false, false, false, false, false, false, false, false, false, false, false] (by kernel_rfl) rfl rfl ⟨(cb HB hw372_0), (cb HB hw372_1), (cb HB hw372_2), (cb HB hw373_0), (cb HB hw373_1), (cb HB hw373_2), (cb HB hw380_0), (cb HB hw380_1), (cb HB hw380_2)⟩ (fun hHeld => ?_); refine with_tabW spec_l3Pack_in.tab5 spec_l3Pack_in.bits5 (fun HT_ HW_ => ?_)
                     generalize wr.drew = w33 at HO_5 HB HR372_1 HR372_2 HR373_2 HR380_2 hx372_0 hx372_1 hx372_2 hx373_0 hx373_1 hx373_2 hx380_0 hx380_1 hx380_2 hHeld ⊢
                     refine rP 0 (some 29) #[true, false, false, false, false, false, false, false, false, false, false, false, false, false, false, false, false, false, false, false, false, false] (any_of HT_.out (by kernel_rfl)) ?_
                     refine rP 1 (some 30) #[true, true, false, false, false, false, false, false, false, false, false, false, false, false, false, false, false, false, false, false, false, false] (any_of HT_.out (by kernel_rfl)) ?_
                     refine rP 2 (some 31) #[true, true, true, false, false, false, false, false, false, false, false, false, false, false, false, false, false, false, false, false, false, false] (any_of HT_.out (by kernel_rfl)) ?_
                     refine rP 3 (some 32) #[true, true, true, true, false, false, false, false, false, false, false, false, false, false, false, false, false, false, false, false, false, false] (any_of HT_.out (by kernel_rfl)) ?_
                     refine rP 5 (some 34) #[true, true, true, true, false, true, false, false, false, false, false, false, false, false, false, false, false, false, false, false, false, false] (any_of HT_.out (by kernel_rfl)) ?_
                     refine rP 11 (some 40) #[true, true, true, true, false, true, false, false, false, false, false, true, false, false, false, false, false, false, false, false, false, false] (any_of HT_.out (by kernel_rfl)) ?_
                     refine rP 12 (some 41) #[true, true, true, true, false, true, false, false, false, false, false, true, true, false, false, false, false, false, false, false, false, false] (any_of HT_.out (by kernel_rfl)) ?_
                     refine rP 13 (some 42) #[true, true, true, true, false, true, false, false, false, false, false, true, true, true, false, false, false, false, false, false, false, false] (any_of HT_.out (by kernel_rfl)) ?_
                     refine rP 15 (some 44) #[true, true, true, true, false, true, false, false, false, false, false, true, true, true, false, true, false, false, false, false, false, false] (any_of HT_.out (by kernel_rfl)) ?_
                     refine rT 4 (some 33) #[true, true, true, true, true, true, false, false, false, false, false, true, true, true, false, true, false, false, false, false, false, false] (take_ofW HT_.out HW_.out (by kernel_rfl)) hHeld ?_
                     refine rP 6 (some 35) #[true, true, true, true, true, true, true, false, false, false, false, true, true, true, false, true, false, false, false, false, false, false] (any_of HT_.out (by kernel_rfl)) ?_
                     refine rP 7 (some 36) #[true, true, true, true, true, true, true, true, false, false, false, true, true, true, false, true, false, false, false, false, false, false] (any_of HT_.out (by kernel_rfl)) ?_
                     refine rT 8 (some 37) #[true, true, true, true, true, true, true, true, true, false, false, true, true, true, false, true, false, false, false, false, false, false] (take_ofW HT_.out HW_.out (by kernel_rfl)) hHeld ?_
                     refine rT 14 (some 43) #[true, true, true, true, true, true, true, true, true, false, false, true, true, true, true, true, false, false, false, false, false, false] (take_ofW HT_.out HW_.out (by kernel_rfl)) hHeld ?_
                     refine rP 16 (some 45) #[true, true, true, true, true, true, true, true, true, false, false, true, true, true, true, true, true, false, false, false, false, false] (any_of HT_.out (by kernel_rfl)) ?_
                     refine rP 17 (some 46) #[true, true, true, true, true, true, true, true, true, false, false, true, true, true, true, true, true, true, false, false, false, false] (any_of HT_.out (by kernel_rfl)) ?_
                     refine rT 18 (some 47) #[true, true, true, true, true, true, true, true, true, false, false, true, true, true, true, true, true, true, true, false, false, false] (take_ofW HT_.out HW_.out (by kernel_rfl)) hHeld ?_
                     refine one_ (i := 9) (N := some 38) #[true, true, true, true, true, true, true, true, true, true, false, true, true, true, true, true, true, true, true, false, false, false] rfl rfl (one_of HT_.out (by kernel_rfl)) (by decide) (fun K hK => ?_)
                     refine goes_ Try.func125 (by kernel_rfl) rfl #[.int .i64 ((rd_T34 ((rd_T27 l0 0).f1) x6_1).f0)] (by rfl) rfl rfl pA ?_
                     with_reducible refine (spec_l3Big.calls ((rd_T34 ((rd_T27 l0 0).f1) x6_1).f0) t374 _ A15.out).mono ?_
                     rintro e w34 ⟨v375, rfl, ho0, hb⟩
                     refine ⟨_, rfl, ?_⟩
                     have n_ := t3 (rE (pR HO_5) (rB ho0) hb) (rL (rW ho0 (Kd.R_lt (pR HO_5))) (bs_ pB)) (bz_ pB hb)
                     clear HO_5 HB; obtain ⟨HO_5, HO376, HB⟩ := n_; (try clear hb); (try clear hb2); (try clear hk); (try clear hi); (try clear ho0)
                     obtain ⟨Ao36, co36, eo36⟩ := rS HO376.out
                     (first | subst eo36 | (injection eo36 with f1_ f2_ f3_; have f4_ := f1_.symm; have f5_ := f3_.symm; clear f1_ f2_ f3_; subst f4_; subst f5_))
                     refine hK.out _ _ ⟨(cb HB hw372_0), (cb HB hw372_1), (cb HB hw372_2), (cb HB hw373_0), (cb HB hw373_1), (cb HB hw373_2), (cb HB hw380_0), (cb HB hw380_1), (cb HB hw380_2)⟩ (fun hHeld => ?_)
                     clear hK K
                     refine rN ?_
                     refine one_ (i := 10) (N := some 39) #[true, true, true, true, true, true, true, true, true, true, true, true, true, true, true, true, true, true, true, false, false, false] rfl rfl (one_of HT_.out (by kernel_rfl)) (by decide) (fun K hK => ?_)
                     refine Kd.R_append_rows_step (Kd.int .u8) (w0 := w) w.heap.size (by rfl) (.tmp 29) (.tmp 38) 22 5 (.int .u8 0) 1 rfl Try.underlying22 info5 rfl (by decide) (by omega) u5 x5_1 t374 _ _ _ (fun k_ => some k_ ≠ (.slice Ao36 t374.length co36 : Value).ownBlock) (fun _ => False) rfl rfl ?aO ?aR (fun _ _ h => h) (fun _ h => h.elim) ?aF ?aB ?aS ?aL ?_
                     (case aR => exact pC (rr HO376.out).2.2)
                     (case aB => exact pB)
                     (case aF => exact (fun k_ hk => Kd.fresh' (Kd.R_lt (pR HO376)) k_ hk))
                     (case aO => exact (pT (Kd.R_mono HO_5.out (fun _ hk => hk.2))))
                     (case aS => exact (bs_ pB))
                     (case aL => have := LMc16.out; omega)
                     intro v378 w35 ho hb hg hat
                     rw [← Ny377.out] at ho
                     have n_ := t3 (Kd.R_after (ok := (fun _ => True)) (pR HO376) hg hat) (hb) (ho)
                     clear HO376 HB HO_5; obtain ⟨HO376, HB, HO379⟩ := n_; clear ho hb hg hat
                     refine hK.out _ _ ⟨(cb HB hw372_0), (cb HB hw372_1), (cb HB hw372_2), (cb HB hw373_0), (cb HB hw373_1), (cb HB hw373_2), (cb HB hw380_0), (cb HB hw380_1), (cb HB hw380_2)⟩ (fun hHeld => ?_)
                     clear hK K
                     refine rN ?_
                     refine one_ (i := 19) (N := some 48) #[true, true, true, true, true, true, true, true, true, true, true, true, true, true, true, true, true, true, true, true, false, false] rfl rfl (one_of HT_.out (by kernel_rfl)) (by decide) (fun K hK => ?_)
                     refine goes_ Try.func80 (by kernel_rfl) rfl #[.int .i64 ((rd_T34 ((rd_T27 l0 0).f1) x6_1).f1)] (by rfl) rfl rfl pA ?_
                     with_reducible refine (spec_l3Put.calls ((rd_T34 ((rd_T27 l0 0).f1) x6_1).f1) t381 _ A17.out).mono ?_
                     rintro e w37 ⟨v382, rfl, ho0, hb⟩
                     refine ⟨_, rfl, ?_⟩
                     have n_ := t4 (rE (pR HO376) (rB ho0) hb) (rE (pR HO379) (rB ho0) hb) (rL (rW (rW ho0 (Kd.R_lt (pR HO376))) (Kd.R_lt (pR HO379))) (bs_ pB)) (bz_ pB hb)
                     clear HO376 HO379 HB; obtain ⟨HO376, HO379, HO383, HB⟩ := n_; (try clear hb); (try clear hb2); (try clear hk); (try clear hi); (try clear ho0)
                     obtain ⟨Ao39, co39, eo39⟩ := rS HO383.out
                     (first | subst eo39 | (injection eo39 with f1_ f2_ f3_; have f4_ := f1_.symm; have f5_ := f3_.symm; clear f1_ f2_ f3_; subst f4_; subst f5_))
                     refine hK.out _ _ ⟨(cb HB hw372_0), (cb HB hw372_1), (cb HB hw372_2), (cb HB hw373_0), (cb HB hw373_1), (cb HB hw373_2), (cb HB hw380_0), (cb HB hw380_1), (cb HB hw380_2)⟩ (fun hHeld => ?_)
                     clear hK K
                     refine rN ?_
                     refine one_ (i := 20) (N := some 49) #[true, true, true, true, true, true, true, true, true, true, true, true, true, true, true, true, true, true, true, true, true, false] rfl rfl (one_of HT_.out (by kernel_rfl)) (by decide) (fun K hK => ?_)
                     refine Kd.R_append_rows_step (Kd.int .u8) (w0 := w) w.heap.size (by rfl) (.tmp 39) (.tmp 48) 22 5 (.int .u8 0) 1 rfl Try.underlying22 info5 rfl (by decide) (by omega) v378 y377 t381 _ _ _ (fun k_ => some k_ ≠ (.slice Ao36 t374.length co36 : Value).ownBlock ∧ some k_ ≠ (.slice Ao39 t381.length co39 : Value).ownBlock) (fun _ => False) rfl rfl ?aO ?aR (fun _ _ h => h) (fun _ h => h.elim) ?aF ?aB ?aS ?aL ?_
                     (case aR => exact pC (rr HO383.out).2.2)
                     (case aB => exact pB)
                     (case aF => exact (fun k_ hk => ⟨Kd.fresh' (Kd.R_lt (pR HO376)) k_ hk, Kd.fresh' (Kd.R_lt (pR HO383)) k_ hk⟩))
                     (case aO => exact (pR HO379))
                     (case aS => exact (bs_ pB))
                     (case aL => have := LMc18.out; omega)
                     intro v385 w38 ho hb hg hat
                     rw [← Ny384.out] at ho
                     have n_ := t4 (Kd.R_after (ok := (fun k_ => some k_ ≠ (.slice Ao39 t381.length co39 : Value).ownBlock)) (pT (Kd.R_mono HO376.out (fun _ hk => ⟨hk.2, hk.1.2⟩))) hg hat) (Kd.R_after (ok := (fun k_ => some k_ ≠ (.slice Ao36 t374.length co36 : Value).ownBlock)) (pT (Kd.R_mono HO383.out (fun _ hk => ⟨hk.1.2, hk.2⟩))) hg hat) (hb) (ho)
                     clear HO376 HO383 HB HO379; obtain ⟨HO376, HO383, HB, HO386⟩ := n_; clear ho hb hg hat
                     refine hK.out _ _ ⟨(cb HB hw372_0), (cb HB hw372_1), (cb HB hw372_2), (cb HB hw373_0), (cb HB hw373_1), (cb HB hw373_2), (cb HB hw380_0), (cb HB hw380_1), (cb HB hw380_2)⟩ (fun hHeld => ?_)
                     clear hK K
                     refine rN ?_
                     refine rP 21 (some 5) #[true, true, true, true, true, true, true, true, true, true, true, true, true, true, true, true, true, true, true, true, true, true] (any_of HT_.out (by kernel_rfl)) ?_
                     refine done_ (done_of HT_.out (by kernel_rfl)) ?_
                     try go_wp2_with (first | ((with_reducible refine gB (b := .append) (xs := #[.tmp 62, .tmp 63]) rfl ?_); at_builtin; refine Kd.R_append (Kd.int .u8) (w0 := w) w.heap.size rfl (.tmp 62) (.tmp 63) 22 5 (.int .u8 0) 1 rfl Try.underlying22 info5 rfl (by decide) (by omega) v385 y384 0 [.int .u8 0] (fun k_ => some k_ ≠ (.slice Ao36 t374.length co36 : Value).ownBlock ∧ some k_ ≠ (.slice Ao39 t381.length co39 : Value).ownBlock) (fun _ => False) rfl rfl ?aP (fun _ hk => hk.elim) ?aF ?aO ?aB ?aS ?aL ?_; (case aP => exact rfl); (case aB => exact pB); (case aF => exact (fun k_ hk => ⟨Kd.fresh' (Kd.R_lt (pR HO376)) k_ hk, Kd.fresh' (Kd.R_lt (pR HO383)) k_ hk⟩)); (case aO => exact (pR HO386)); (case aS => exact (bs_ pB)); (case aL => have := LMc32.out; omega); intro v396 w40 ho hb hg hat; rw [← Ny395.out] at ho; have n_ := t4 (Kd.R_after (ok := (fun k_ => some k_ ≠ (.slice Ao39 t381.length co39 : Value).ownBlock)) (pR HO376) hg hat) (Kd.R_after (ok := (fun k_ => some k_ ≠ (.slice Ao36 t374.length co36 : Value).ownBlock)) (pR HO383) hg hat) (hb) (ho); clear HO376 HO383 HB HO386; obtain ⟨HO376, HO383, HB, HO397⟩ := n_; clear ho hb hg hat))
                     go_roundg k1
                     case measure => have := HK1.out; omega
                     case rel => exact ⟨(y395), (wrap64 (x6_1 + 1)), pF, H', ⟨by have := HK1.out; omega⟩, ⟨(pT (Kd.R_mono HO397.out (fun _ hk => trivial)))⟩, ⟨pB⟩⟩
                   · rw [if_neg c32] at H
                     exact absurd H (by simp)
               · rw [if_neg c18] at H
                 exact absurd H (by simp)
             · rw [if_neg c16] at H
               exact absurd H (by simp)
           · rw [if_neg c14] at H
             exact absurd H (by simp)
         · rw [if_neg c13] at H
           have c13b0 : decide (x6_1 < (((rd_T27 l0 0).f1).length : Int)) = false := decide_eq_false c13
           clear c13
           obtain ⟨t399, A410, H⟩ := bO H
           replace H : (if x5_1.length + t399.length < 140737488355328 then (spec_l3Pack_in.l1 k1 l0 (x5_1 ++ t399) 0) else (none)) = some r := H
           have A41 := am A410; clear A410
           by_cases c42 : x5_1.length + t399.length < 140737488355328
           · rw [if_pos c42] at H
             have LMc42 := am c42; clear c42
             obtain ⟨y402, hy402⟩ : ∃ y_ : List Int, y_ = (x5_1 ++ t399) := ⟨_, rfl⟩
             replace H : (spec_l3Pack_in.l1 k1 l0 y402 0) = some r := by first | (rw [hy402]; with_reducible exact H) | (have H2_ := (Option.bind_some _ _).symm.trans H; rw [hy402]; with_reducible exact H2_) | (have H2_ := (Option.bind_some _ _).symm.trans H; with_reducible exact H2_) | with_reducible exact H | (rw [hy402]; exact H) | exact H
             have Ny402 := am hy402; clear hy402
             have H' := am H
             clear H
             have p371 : 0 ≤ (0 : Int) := (by omega)
             have q371 : 0 < (l0.length : Int) := pD
             obtain ⟨ad371, A371_1, c371_1, A371_2, c371_2, e371, hx371_0, hx371_1, hx371_2, hl371_1, hi371_1, hl371_2, hi371_2⟩ := at_T27 HR0.out 0 p371 q371
             obtain rfl : ad361 = ad371 := (by injection e371)
             have qi371 : (0 < l0.length) = True := eq_true (by omega)
             (try rw [z0, zm, az] at hx371_0); (try rw [z0, zm, az] at hx371_1); (try rw [z0, zm, az] at hx371_2); replace hx371_0 := cb HB hx371_0; replace hx371_1 := cb HB hx371_1; replace hx371_2 := cb HB hx371_2; have HR371_1 := am hi371_1; have HC371_1 := am hl371_1; clear hi371_1 hl371_1; have HR371_2 := am hi371_2; have HC371_2 := am hl371_2; clear hi371_2 hl371_2; replace p371 := eq_true p371; replace q371 := eq_true q371
             have p398 : 0 ≤ (0 : Int) := (by omega)
             have q398 : 0 < (l0.length : Int) := pD
             obtain ⟨ad398, A398_1, c398_1, A398_2, c398_2, e398, hx398_0, hx398_1, hx398_2, hl398_1, hi398_1, hl398_2, hi398_2⟩ := at_T27 HR0.out 0 p398 q398
             obtain rfl : ad361 = ad398 := (by injection e398)
             have qi398 : (0 < l0.length) = True := eq_true (by omega)
             (try rw [z0, zm, az] at hx398_0); (try rw [z0, zm, az] at hx398_1); (try rw [z0, zm, az] at hx398_2); replace hx398_0 := cb HB hx398_0; replace hx398_1 := cb HB hx398_1; replace hx398_2 := cb HB hx398_2; have HR398_1 := am hi398_1; have HC398_1 := am hl398_1; clear hi398_1 hl398_1; have HR398_2 := am hi398_2; have HC398_2 := am hl398_2; clear hi398_2 hl398_2; replace p398 := eq_true p398; replace q398 := eq_true q398
             have ea_ := sj (hx371_1.symm.trans hx398_1)
             injection ea_ with ea_ en_ ec_
             subst ea_; subst ec_; clear en_
             have ea_ := sj (hx371_2.symm.trans hx398_2)
             injection ea_ with ea_ en_ ec_
             subst ea_; subst ec_; clear en_
             go_wp2_with (first | ((with_reducible refine gC (f := 80) rfl ?_); refine goesL_ (some 71) rfl rfl Try.func80 (by kernel_rfl) rfl #[.int .i64 (((rd_T27 l0 0).f2).length : Int)] rfl pA ?_; (with_reducible refine (spec_l3Put.calls (((rd_T27 l0 0).f2).length : Int) t399 _ A41.out).mono ?_); rintro e w43 ⟨v400, rfl, ho0, hb⟩; refine ⟨_, rfl, ?_⟩; have n_ := t3 (rE (pR HO_5) (rB ho0) hb) (rL (rW ho0 (Kd.R_lt (pR HO_5))) (bs_ pB)) (bz_ pB hb); clear HO_5 HB; obtain ⟨HO_5, HO401, HB⟩ := n_; (try clear hb); (try clear ho0); obtain ⟨Ao45, co45, eo45⟩ := rS HO401.out; subst eo45) | ((with_reducible refine gB (b := .append) (xs := #[.tmp 65, .tmp 71]) rfl ?_); at_builtin; refine Kd.R_append_rows (Kd.int .u8) (w0 := w) w.heap.size rfl (.tmp 65) (.tmp 71) 22 5 (.int .u8 0) 1 rfl Try.underlying22 info5 rfl (by decide) (by omega) u5 x5_1 t399 _ _ _ (fun k_ => some k_ ≠ (.slice Ao45 t399.length co45 : Value).ownBlock) (fun _ => False) rfl rfl ?aO ?aR (fun _ _ h => h) (fun _ h => h.elim) ?aF ?aB ?aS ?aL ?_; (case aR => exact pC (rr HO401.out).2.2); (case aB => exact pB); (case aF => exact (fun k_ hk => Kd.fresh' (Kd.R_lt (pR HO401)) k_ hk)); (case aO => exact (pT (Kd.R_mono HO_5.out (fun _ hk => hk.2)))); (case aS => exact (bs_ pB)); (case aL => have := LMc42.out; omega); intro v403 w44 ho hb hg hat; rw [← Ny402.out] at ho; have n_ := t3 (Kd.R_after (ok := (fun _ => True)) (pR HO401) hg hat) (hb) (ho); clear HO401 HB HO_5; obtain ⟨HO401, HB, HO404⟩ := n_; clear ho hb hg hat))
             go_loopg [5, 7] k1 (fun kq v5 v7 w' => ∃ (x5_2 : List Int) (x7_2 : Int), v7 = .int .i64 x7_2 ∧ Aside0 (spec_l3Pack_in.l1 kq l0 x5_2 x7_2 = some r) ∧ Aside0 (kq ≤ k1) ∧ Aside0 (Kd.R (Kd.int .u8) 5 w' w.heap.size (fun _ => True) v5 x5_2) ∧ Aside0 (Below w.heap.size w w'))
             case atStart => exact ⟨(y402), (0), pF, H', ⟨Nat.le_refl _⟩, ⟨(pT (Kd.R_mono HO404.out (fun _ hk => trivial)))⟩, ⟨pB⟩⟩
             case round =>
              clear H'
              (try clear c3); (try clear c12); (try clear c13); (try clear c13b0); (try clear c42); (try clear hx371_0); (try clear hx371_1); (try clear hx371_2); (try clear hx398_0); (try clear hx398_1); (try clear hx398_2); (try clear p371); (try clear p398); (try clear q371); (try clear q398)
              obtain ⟨x5_2, x7_2, rfl, HA, HK2, HO_5, HB⟩ := hrel
              cases gk with
              | zero => exact absurd HA.out (by simp [spec_l3Pack_in.l1])
              | succ k2 =>
               have H := HA.out
               clear HA
               simp only [spec_l3Pack_in.l1] at H
               by_cases c46 : 0 < (l0.length : Int)
               · rw [if_pos c46] at H
                 have c46b0 : decide (0 < (l0.length : Int)) = true := dt c46
                 have c46b1 : decide (0 < l0.length) = true := dt (by omega)
                 clear c46
                 by_cases c47 : x7_2 < (((rd_T27 l0 0).f2).length : Int)
                 · rw [if_pos c47] at H
                   have c47b0 : decide (x7_2 < (((rd_T27 l0 0).f2).length : Int)) = true := dt c47
                   clear c47
                   by_cases c48 : 0 ≤ x7_2
                   · rw [if_pos c48] at H
                     have c48b0 : decide (0 ≤ x7_2) = true := dt c48
                     clear c48
                     obtain ⟨t408, A490, H⟩ := bO H
                     replace H : (if x5_2.length + t408.length < 140737488355328 then ((some (x5_2 ++ t408 : List Int)).bind fun y411 => ((spec_l3List.f k2 ((rd_T86 ((rd_T27 l0 0).f2) x7_2).f1)).bind fun t415 => (if y411.length + t415.length < 140737488355328 then (spec_l3Pack_in.l1 k2 l0 (y411 ++ t415) (wrap64 (x7_2 + 1))) else (none)))) else (none)) = some r := H
                     have A49 := am A490; clear A490
                     by_cases c50 : x5_2.length + t408.length < 140737488355328
                     · rw [if_pos c50] at H
                       have LMc50 := am c50; clear c50
                       obtain ⟨y411, hy411⟩ : ∃ y_ : List Int, y_ = (x5_2 ++ t408) := ⟨_, rfl⟩
                       replace H : ((spec_l3List.f k2 ((rd_T86 ((rd_T27 l0 0).f2) x7_2).f1)).bind fun t415 => (if y411.length + t415.length < 140737488355328 then (spec_l3Pack_in.l1 k2 l0 (y411 ++ t415) (wrap64 (x7_2 + 1))) else (none))) = some r := by first | (rw [hy411]; with_reducible exact H) | (have H2_ := (Option.bind_some _ _).symm.trans H; rw [hy411]; with_reducible exact H2_) | (have H2_ := (Option.bind_some _ _).symm.trans H; with_reducible exact H2_) | with_reducible exact H | (rw [hy411]; exact H) | exact H
                       have Ny411 := am hy411; clear hy411
                       obtain ⟨t415, A510, H⟩ := bO H
                       replace H : (if y411.length + t415.length < 140737488355328 then (spec_l3Pack_in.l1 k2 l0 (y411 ++ t415) (wrap64 (x7_2 + 1))) else (none)) = some r := H
                       have A51 := am A510; clear A510
                       by_cases c52 : y411.length + t415.length < 140737488355328
                       · rw [if_pos c52] at H
                         have LMc52 := am c52; clear c52
                         obtain ⟨y418, hy418⟩ : ∃ y_ : List Int, y_ = (y411 ++ t415) := ⟨_, rfl⟩
                         replace H : (spec_l3Pack_in.l1 k2 l0 y418 (wrap64 (x7_2 + 1))) = some r := by first | (rw [hy418]; with_reducible exact H) | (have H2_ := (Option.bind_some _ _).symm.trans H; rw [hy418]; with_reducible exact H2_) | (have H2_ := (Option.bind_some _ _).symm.trans H; with_reducible exact H2_) | with_reducible exact H | (rw [hy418]; exact H) | exact H
                         have Ny418 := am hy418; clear hy418
                         have H' := am H
                         clear H
                         have p405 : 0 ≤ (0 : Int) := (by omega)
                         have q405 : 0 < (l0.length : Int) := pD
                         (try clear hx398_0); (try clear hx398_1); (try clear hx398_2); (try clear hHeld)
                         obtain ⟨ad405, A405_1, c405_1, A405_2, c405_2, e405, hx405_0, hx405_1, hx405_2, hl405_1, hi405_1, hl405_2, hi405_2⟩ := at_T27 HR0.out 0 p405 q405
                         obtain rfl : ad361 = ad405 := (by injection e405)
                         have qi405 : (0 < l0.length) = True := eq_true (by omega)
                         (try rw [z0, zm, az] at hx405_0); (try rw [z0, zm, az] at hx405_1); (try rw [z0, zm, az] at hx405_2); replace hx405_0 := cb HB hx405_0; replace hx405_1 := cb HB hx405_1; replace hx405_2 := cb HB hx405_2; have HR405_1 := am hi405_1; have HC405_1 := am hl405_1; clear hi405_1 hl405_1; have HR405_2 := am hi405_2; have HC405_2 := am hl405_2; clear hi405_2 hl405_2; replace p405 := eq_true p405; replace q405 := eq_true q405
                         try go_wp2
                         have n_ := t2 (Kd.R_drew HO_5.out) (below_drew1 HB.out)
                         clear HO_5 HB; obtain ⟨HO_5, HB⟩ := n_
                         have p406 : 0 ≤ (0 : Int) := (by omega)
                         have q406 : 0 < (l0.length : Int) := pD
                         (try clear hx405_0); (try clear hx405_1); (try clear hx405_2); (try clear hHeld)
                         obtain ⟨ad406, A406_1, c406_1, A406_2, c406_2, e406, hx406_0, hx406_1, hx406_2, hl406_1, hi406_1, hl406_2, hi406_2⟩ := at_T27 HR0.out 0 p406 q406
                         have hw406_2 := hx406_2
                         (try rw [z0, zm, az] at hw406_2)
                         have hw406_1 := hx406_1
                         (try rw [z0, zm, az] at hw406_1)
                         have hw406_0 := hx406_0
                         (try rw [z0, zm, az] at hw406_0)
                         obtain rfl : ad361 = ad406 := (by injection e406)
                         have qi406 : (0 < l0.length) = True := eq_true (by omega)
                         (try rw [z0, zm, az] at hx406_0); (try rw [z0, zm, az] at hx406_1); (try rw [z0, zm, az] at hx406_2); replace hx406_0 := cb HB hx406_0; replace hx406_1 := cb HB hx406_1; replace hx406_2 := cb HB hx406_2; have HR406_1 := am hi406_1; have HC406_1 := am hl406_1; clear hi406_1 hl406_1; have HR406_2 := am hi406_2; have HC406_2 := am hl406_2; clear hi406_2 hl406_2; replace p406 := eq_true p406; replace q406 := eq_true q406
                         have p407 : 0 ≤ (x7_2 : Int) := pD
                         have q407 : x7_2 < (((rd_T27 l0 0).f2).length : Int) := pD
                         obtain ⟨ad407, A407_1, c407_1, e407, hx407_0, hx407_1, hl407_1, hi407_1⟩ := at_T86 HR406_2.out x7_2 p407 q407
                         have hw407_1 := hx407_1
                         have hw407_0 := hx407_0
                         cases e407; replace hx407_0 := cb HB hx407_0; replace hx407_1 := cb HB hx407_1; have HR407_1 := am hi407_1; have HC407_1 := am hl407_1; clear hi407_1 hl407_1; replace p407 := eq_true p407; replace q407 := eq_true q407
                         have p414 : 0 ≤ (x7_2 : Int) := pD
                         have q414 : x7_2 < (((rd_T27 l0 0).f2).length : Int) := pD
                         obtain ⟨ad414, A414_1, c414_1, e414, hx414_0, hx414_1, hl414_1, hi414_1⟩ := at_T86 HR406_2.out x7_2 p414 q414
                         have hw414_1 := hx414_1
                         have hw414_0 := hx414_0
                         obtain rfl : ad407 = ad414 := (by injection e414)
                         replace hx414_0 := cb HB hx414_0; replace hx414_1 := cb HB hx414_1; have HR414_1 := am hi414_1; have HC414_1 := am hl414_1; clear hi414_1 hl414_1; replace p414 := eq_true p414; replace q414 := eq_true q414
                         have ea_ := sj (hx407_1.symm.trans hx414_1)
                         injection ea_ with ea_ en_ ec_
                         subst ea_; subst ec_; clear en_
                         refine start_ (n := 22) (S := fun w' => w'.cell? ad361 = some (.int .i64 ((rd_T27 l0 0).f0)) ∧ w'.cell? ⟨ad361.block, ad361.off + 1, none⟩ = some (.slice A406_1 ((rd_T27 l0 0).f1).length c406_1) ∧ w'.cell? ⟨ad361.block, ad361.off + 2, none⟩ = some (.slice (some ad407) ((rd_T27 l0 0).f2).length c406_2) ∧ w'.cell? (ad407.add ((x7_2).toNat * 2)) = some (.int .i64 ((rd_T86 ((rd_T27 l0 0).f2) x7_2).f0)) ∧ w'.cell? ⟨(ad407.add ((x7_2).toNat * 2)).block, (ad407.add ((x7_2).toNat * 2)).off + 1, none⟩ = some (.slice A407_1 ((rd_T86 ((rd_T27 l0 0).f2) x7_2).f1).length c407_1) ∧ w'.cell? (ad407.add ((x7_2).toNat * 2)) = some (.int .i64 ((rd_T86 ((rd_T27 l0 0).f2) x7_2).f0)) ∧ w'.cell? ⟨(ad407.add ((x7_2).toNat * 2)).block, (ad407.add ((x7_2).toNat * 2)).off + 1, none⟩ = some (.slice A407_1 ((rd_T86 ((rd_T27 l0 0).f2) x7_2).f1).length c407_1)) (ds := []) #[false, false, false, false, false, false, false, false, false, false, false, false, false, false, false, false, false, false, false, false, false, false] (by kernel_rfl) rfl rfl ⟨(cb HB hw406_0), (cb HB hw406_1), (cb HB hw406_2), (cb HB hw407_0), (cb HB hw407_1), (cb HB hw414_0), (cb HB hw414_1)⟩ (fun hHeld => ?_); refine with_tabW spec_l3Pack_in.tab13 spec_l3Pack_in.bits13 (fun HT_ HW_ => ?_)
                         generalize wr.drew = w53 at HO_5 HB HR406_1 HR406_2 HR407_1 HR414_1 hx406_0 hx406_1 hx406_2 hx407_0 hx407_1 hx414_0 hx414_1 hHeld ⊢
                         refine rP 0 (some 82) #[true, false, false, false, false, false, false, false, false, false, false, false, false, false, false, false, false, false, false, false, false, false] (any_of HT_.out (by kernel_rfl)) ?_
                         refine rP 1 (some 83) #[true, true, false, false, false, false, false, false, false, false, false, false, false, false, false, false, false, false, false, false, false, false] (any_of HT_.out (by kernel_rfl)) ?_
                         refine rP 2 (some 84) #[true, true, true, false, false, false, false, false, false, false, false, false, false, false, false, false, false, false, false, false, false, false] (any_of HT_.out (by kernel_rfl)) ?_
                         refine rP 3 (some 85) #[true, true, true, true, false, false, false, false, false, false, false, false, false, false, false, false, false, false, false, false, false, false] (any_of HT_.out (by kernel_rfl)) ?_
                         refine rP 5 (some 87) #[true, true, true, true, false, true, false, false, false, false, false, false, false, false, false, false, false, false, false, false, false, false] (any_of HT_.out (by kernel_rfl)) ?_
                         refine rP 11 (some 93) #[true, true, true, true, false, true, false, false, false, false, false, true, false, false, false, false, false, false, false, false, false, false] (any_of HT_.out (by kernel_rfl)) ?_
                         refine rP 12 (some 94) #[true, true, true, true, false, true, false, false, false, false, false, true, true, false, false, false, false, false, false, false, false, false] (any_of HT_.out (by kernel_rfl)) ?_
                         refine rP 13 (some 95) #[true, true, true, true, false, true, false, false, false, false, false, true, true, true, false, false, false, false, false, false, false, false] (any_of HT_.out (by kernel_rfl)) ?_
                         refine rP 15 (some 97) #[true, true, true, true, false, true, false, false, false, false, false, true, true, true, false, true, false, false, false, false, false, false] (any_of HT_.out (by kernel_rfl)) ?_
                         refine rT 4 (some 86) #[true, true, true, true, true, true, false, false, false, false, false, true, true, true, false, true, false, false, false, false, false, false] (take_ofW HT_.out HW_.out (by kernel_rfl)) hHeld ?_
                         refine rP 6 (some 88) #[true, true, true, true, true, true, true, false, false, false, false, true, true, true, false, true, false, false, false, false, false, false] (any_of HT_.out (by kernel_rfl)) ?_
                         refine rP 7 (some 89) #[true, true, true, true, true, true, true, true, false, false, false, true, true, true, false, true, false, false, false, false, false, false] (any_of HT_.out (by kernel_rfl)) ?_
                         refine rT 8 (some 90) #[true, true, true, true, true, true, true, true, true, false, false, true, true, true, false, true, false, false, false, false, false, false] (take_ofW HT_.out HW_.out (by kernel_rfl)) hHeld ?_
                         refine rT 14 (some 96) #[true, true, true, true, true, true, true, true, true, false, false, true, true, true, true, true, false, false, false, false, false, false] (take_ofW HT_.out HW_.out (by kernel_rfl)) hHeld ?_
                         refine rP 16 (some 98) #[true, true, true, true, true, true, true, true, true, false, false, true, true, true, true, true, true, false, false, false, false, false] (any_of HT_.out (by kernel_rfl)) ?_
                         refine rP 17 (some 99) #[true, true, true, true, true, true, true, true, true, false, false, true, true, true, true, true, true, true, false, false, false, false] (any_of HT_.out (by kernel_rfl)) ?_
                         refine rT 18 (some 100) #[true, true, true, true, true, true, true, true, true, false, false, true, true, true, true, true, true, true, true, false, false, false] (take_ofW HT_.out HW_.out (by kernel_rfl)) hHeld ?_
                         refine one_ (i := 9) (N := some 91) #[true, true, true, true, true, true, true, true, true, true, false, true, true, true, true, true, true, true, true, false, false, false] rfl rfl (one_of HT_.out (by kernel_rfl)) (by decide) (fun K hK => ?_)
                         refine goes_ Try.func125 (by kernel_rfl) rfl #[.int .i64 ((rd_T86 ((rd_T27 l0 0).f2) x7_2).f0)] (by rfl) rfl rfl pA ?_
                         with_reducible refine (spec_l3Big.calls ((rd_T86 ((rd_T27 l0 0).f2) x7_2).f0) t408 _ A49.out).mono ?_
                         rintro e w54 ⟨v409, rfl, ho0, hb⟩
                         refine ⟨_, rfl, ?_⟩
                         have n_ := t3 (rE (pR HO_5) (rB ho0) hb) (rL (rW ho0 (Kd.R_lt (pR HO_5))) (bs_ pB)) (bz_ pB hb)
                         clear HO_5 HB; obtain ⟨HO_5, HO410, HB⟩ := n_; (try clear hb); (try clear hb2); (try clear hk); (try clear hi); (try clear ho0)
                         obtain ⟨Ao56, co56, eo56⟩ := rS HO410.out
                         (first | subst eo56 | (injection eo56 with f1_ f2_ f3_; have f4_ := f1_.symm; have f5_ := f3_.symm; clear f1_ f2_ f3_; subst f4_; subst f5_))
                         refine hK.out _ _ ⟨(cb HB hw406_0), (cb HB hw406_1), (cb HB hw406_2), (cb HB hw407_0), (cb HB hw407_1), (cb HB hw414_0), (cb HB hw414_1)⟩ (fun hHeld => ?_)
                         clear hK K
                         refine rN ?_
                         refine one_ (i := 10) (N := some 92) #[true, true, true, true, true, true, true, true, true, true, true, true, true, true, true, true, true, true, true, false, false, false] rfl rfl (one_of HT_.out (by kernel_rfl)) (by decide) (fun K hK => ?_)
                         refine Kd.R_append_rows_step (Kd.int .u8) (w0 := w) w.heap.size (by rfl) (.tmp 82) (.tmp 91) 22 5 (.int .u8 0) 1 rfl Try.underlying22 info5 rfl (by decide) (by omega) u5 x5_2 t408 _ _ _ (fun k_ => some k_ ≠ (.slice Ao56 t408.length co56 : Value).ownBlock) (fun _ => False) rfl rfl ?aO ?aR (fun _ _ h => h) (fun _ h => h.elim) ?aF ?aB ?aS ?aL ?_
                         (case aR => exact pC (rr HO410.out).2.2)
                         (case aB => exact pB)
                         (case aF => exact (fun k_ hk => Kd.fresh' (Kd.R_lt (pR HO410)) k_ hk))
                         (case aO => exact (pT (Kd.R_mono HO_5.out (fun _ hk => hk.2))))
                         (case aS => exact (bs_ pB))
                         (case aL => have := LMc50.out; omega)
                         intro v412 w55 ho hb hg hat
                         rw [← Ny411.out] at ho
                         have n_ := t3 (Kd.R_after (ok := (fun _ => True)) (pR HO410) hg hat) (hb) (ho)
                         clear HO410 HB HO_5; obtain ⟨HO410, HB, HO413⟩ := n_; clear ho hb hg hat
                         refine hK.out _ _ ⟨(cb HB hw406_0), (cb HB hw406_1), (cb HB hw406_2), (cb HB hw407_0), (cb HB hw407_1), (cb HB hw414_0), (cb HB hw414_1)⟩ (fun hHeld => ?_)
                         clear hK K
                         refine rN ?_
                         refine one_ (i := 19) (N := some 101) #[true, true, true, true, true, true, true, true, true, true, true, true, true, true, true, true, true, true, true, true, false, false] rfl rfl (one_of HT_.out (by kernel_rfl)) (by decide) (fun K hK => ?_)
                         refine goes_ Try.func126 (by kernel_rfl) rfl #[.slice A407_1 ((rd_T86 ((rd_T27 l0 0).f2) x7_2).f1).length c407_1] (by rfl) rfl rfl pA ?_
                         with_reducible refine (spec_l3List.calls k2 _ _ ((rd_T86 ((rd_T27 l0 0).f2) x7_2).f1) t415 _ ?side1 ?side2 A51.out).mono ?_
                         (case side1 => exact pC (Kd.C_below HR414_1.out HB.out))
                         (case side2 => exact HC414_1.out)
                         rintro e w57 ⟨v416, rfl, ho0, hb⟩
                         refine ⟨_, rfl, ?_⟩
                         have n_ := t4 (rE (pR HO410) (rB ho0) hb) (rE (pR HO413) (rB ho0) hb) (rL (rW (rW ho0 (Kd.R_lt (pR HO410))) (Kd.R_lt (pR HO413))) (bs_ pB)) (bz_ pB hb)
                         clear HO410 HO413 HB; obtain ⟨HO410, HO413, HO417, HB⟩ := n_; (try clear hb); (try clear hb2); (try clear hk); (try clear hi); (try clear ho0)
                         obtain ⟨Ao59, co59, eo59⟩ := rS HO417.out
                         (first | subst eo59 | (injection eo59 with f1_ f2_ f3_; have f4_ := f1_.symm; have f5_ := f3_.symm; clear f1_ f2_ f3_; subst f4_; subst f5_))
                         refine hK.out _ _ ⟨(cb HB hw406_0), (cb HB hw406_1), (cb HB hw406_2), (cb HB hw407_0), (cb HB hw407_1), (cb HB hw414_0), (cb HB hw414_1)⟩ (fun hHeld => ?_)
                         clear hK K
                         refine rN ?_
                         refine one_ (i := 20) (N := some 102) #[true, true, true, true, true, true, true, true, true, true, true, true, true, true, true, true, true, true, true, true, true, false] rfl rfl (one_of HT_.out (by kernel_rfl)) (by decide) (fun K hK => ?_)
                         refine Kd.R_append_rows_step (Kd.int .u8) (w0 := w) w.heap.size (by rfl) (.tmp 92) (.tmp 101) 22 5 (.int .u8 0) 1 rfl Try.underlying22 info5 rfl (by decide) (by omega) v412 y411 t415 _ _ _ (fun k_ => some k_ ≠ (.slice Ao56 t408.length co56 : Value).ownBlock ∧ some k_ ≠ (.slice Ao59 t415.length co59 : Value).ownBlock) (fun _ => False) rfl rfl ?aO ?aR (fun _ _ h => h) (fun _ h => h.elim) ?aF ?aB ?aS ?aL ?_
                         (case aR => exact pC (rr HO417.out).2.2)
                         (case aB => exact pB)
                         (case aF => exact (fun k_ hk => ⟨Kd.fresh' (Kd.R_lt (pR HO410)) k_ hk, Kd.fresh' (Kd.R_lt (pR HO417)) k_ hk⟩))
                         (case aO => exact (pR HO413))
                         (case aS => exact (bs_ pB))
                         (case aL => have := LMc52.out; omega)
                         intro v419 w58 ho hb hg hat
                         rw [← Ny418.out] at ho
                         have n_ := t4 (Kd.R_after (ok := (fun k_ => some k_ ≠ (.slice Ao59 t415.length co59 : Value).ownBlock)) (pT (Kd.R_mono HO410.out (fun _ hk => ⟨hk.2, hk.1.2⟩))) hg hat) (Kd.R_after (ok := (fun k_ => some k_ ≠ (.slice Ao56 t408.length co56 : Value).ownBlock)) (pT (Kd.R_mono HO417.out (fun _ hk => ⟨hk.1.2, hk.2⟩))) hg hat) (hb) (ho)
                         clear HO410 HO417 HB HO413; obtain ⟨HO410, HO417, HB, HO420⟩ := n_; clear ho hb hg hat
                         refine hK.out _ _ ⟨(cb HB hw406_0), (cb HB hw406_1), (cb HB hw406_2), (cb HB hw407_0), (cb HB hw407_1), (cb HB hw414_0), (cb HB hw414_1)⟩ (fun hHeld => ?_)
                         clear hK K
                         refine rN ?_
                         refine rP 21 (some 5) #[true, true, true, true, true, true, true, true, true, true, true, true, true, true, true, true, true, true, true, true, true, true] (any_of HT_.out (by kernel_rfl)) ?_
                         refine done_ (done_of HT_.out (by kernel_rfl)) ?_
                         try go_wp2
                         go_roundg k2
                         case measure => have := HK1.out; have := HK2.out; omega
                         case rel => exact ⟨(y418), (wrap64 (x7_2 + 1)), pF, H', ⟨by have := HK1.out; have := HK2.out; omega⟩, ⟨(pT (Kd.R_mono HO420.out (fun _ hk => trivial)))⟩, ⟨pB⟩⟩
                       · rw [if_neg c52] at H
                         exact absurd H (by simp)
                     · rw [if_neg c50] at H
                       exact absurd H (by simp)
                   · rw [if_neg c48] at H
                     exact absurd H (by simp)
                 · rw [if_neg c47] at H
                   have c47b0 : decide (x7_2 < (((rd_T27 l0 0).f2).length : Int)) = false := decide_eq_false c47
                   clear c47
                   obtain rfl := sj H
                   have p405 : 0 ≤ (0 : Int) := (by omega)
                   have q405 : 0 < (l0.length : Int) := pD
                   obtain ⟨ad405, A405_1, c405_1, A405_2, c405_2, e405, hx405_0, hx405_1, hx405_2, hl405_1, hi405_1, hl405_2, hi405_2⟩ := at_T27 HR0.out 0 p405 q405
                   obtain rfl : ad361 = ad405 := (by injection e405)
                   have qi405 : (0 < l0.length) = True := eq_true (by omega)
                   (try rw [z0, zm, az] at hx405_0); (try rw [z0, zm, az] at hx405_1); (try rw [z0, zm, az] at hx405_2); replace hx405_0 := cb HB hx405_0; replace hx405_1 := cb HB hx405_1; replace hx405_2 := cb HB hx405_2; have HR405_1 := am hi405_1; have HC405_1 := am hl405_1; clear hi405_1 hl405_1; have HR405_2 := am hi405_2; have HC405_2 := am hl405_2; clear hi405_2 hl405_2; replace p405 := eq_true p405; replace q405 := eq_true q405
                   go_wp2
                   go_ret
                   exact ⟨_, pE, (pR HO_5), pB⟩
               · rw [if_neg c46] at H
                 exact absurd H (by simp)
           · rw [if_neg c42] at H
             exact absurd H (by simp)
       · rw [if_neg c12] at H
         exact absurd H (by simp)
   · rw [if_neg c6] at H
     exact absurd H (by simp)
 · rw [if_neg c3] at H
   exact absurd H (by simp)
end Go.Proofs.Ythjlbpgiaehjnaa.QFnExactPackTx
