-- written by this session's program (wip/tools/myprint.py)
import Derived.Test.YthjlbpgiaehjnaaQFnNamesx0
import Derived.Test.YthjlbpgiaehjnaaQFnNamesx12
-- squeezed
namespace Go.Proofs.Ythjlbpgiaehjnaa.QFnNames
open Go.RowKit Go.Proofs.YthjlbpgiaehjnaaW.PrintWords Go.Proofs.YthjlbpgiaehjnaaW.PrintLast Go.Proofs.YthjlbpgiaehjnaaW.PrintMore
attribute [local go_sem] max2_int min2_int max_two min_two max_three min_three max_four min_four   -- for this text's walks alone
set_option linter.unusedVariables false
set_option linter.unusedSimpArgs false
set_option maxHeartbeats 8000000
set_option maxRecDepth 100000
mutual
def spec_l3Pack_in.l0 : Nat → List (S27) → Bool → List Int → Int → Option (List Int)
 | 0, _, _, _, _ => none
 | k + 1, x0, x1, x5, x6 => if 0 < (x0.length : Int) then (if x6 < (((rd_T27 x0 0).f1).length : Int) then (if 0 ≤ x6 then ((spec_l3Big.f ((rd_T34 ((rd_T27 x0 0).f1) x6).f0)).bind fun t510 => (if x5.length + t510.length < 140737488355328 then ((some (x5 ++ t510 : List Int)).bind fun y513 => ((spec_l3Put.f ((rd_T34 ((rd_T27 x0 0).f1) x6).f1)).bind fun t517 => (if y513.length + t517.length < 140737488355328 then ((some (y513 ++ t517 : List Int)).bind fun y520 => (if x1 = true then ((spec_l3List.f k ((rd_T34 ((rd_T27 x0 0).f1) x6).f2)).bind fun t525 => (if y520.length + t525.length < 140737488355328 then (spec_l3Pack_in.l0 k x0 x1 (y520 ++ t525) (wrap64 (x6 + 1))) else (none))) else (if y520.length < 140737488355328 then (spec_l3Pack_in.l0 k x0 x1 (y520 ++ [0]) (wrap64 (x6 + 1))) else (none)))) else (none)))) else (none))) else (none)) else ((spec_l3Put.f (((rd_T27 x0 0).f2).length : Int)).bind fun t535 => (if x5.length + t535.length < 140737488355328 then (spec_l3Pack_in.l1 k x0 (x5 ++ t535) 0) else (none)))) else (none)
def spec_l3Pack_in.l1 : Nat → List (S27) → List Int → Int → Option (List Int)
 | 0, _, _, _ => none
 | k + 1, x0, x5, x7 => if 0 < (x0.length : Int) then (if x7 < (((rd_T27 x0 0).f2).length : Int) then (if 0 ≤ x7 then ((spec_l3Big.f ((rd_T86 ((rd_T27 x0 0).f2) x7).f0)).bind fun t544 => (if x5.length + t544.length < 140737488355328 then ((some (x5 ++ t544 : List Int)).bind fun y547 => ((spec_l3List.f k ((rd_T86 ((rd_T27 x0 0).f2) x7).f1)).bind fun t551 => (if y547.length + t551.length < 140737488355328 then (spec_l3Pack_in.l1 k x0 (y547 ++ t551) (wrap64 (x7 + 1))) else (none)))) else (none))) else (none)) else (some x5)) else (none)
end
def spec_l3Pack_in.f (k : Nat) (l0 : List (S27)) (a1 : Bool) : Option (List Int) := if 0 < (l0.length : Int) then ((spec_l3Put.f ((rd_T27 l0 0).f0)).bind fun t498 => ((spec_l3Put.f (((rd_T27 l0 0).f1).length : Int)).bind fun t501 => (if t498.length + t501.length < 140737488355328 then (spec_l3Pack_in.l0 k l0 a1 (t498 ++ t501) 0) else (none)))) else (none)
theorem spec_l3Pack_in.mono_l : ∀ k, (∀ y0 y1 y2 y3, LeO (spec_l3Pack_in.l0 k y0 y1 y2 y3) (spec_l3Pack_in.l0 (k + 1) y0 y1 y2 y3)) ∧ (∀ y0 y1 y2, LeO (spec_l3Pack_in.l1 k y0 y1 y2) (spec_l3Pack_in.l1 (k + 1) y0 y1 y2))
 | 0 => ⟨fun _ _ _ _ r h => by simp [spec_l3Pack_in.l0] at h, fun _ _ _ r h => by simp [spec_l3Pack_in.l1] at h⟩
 | k + 1 => by
  obtain ⟨ih0, ih1⟩ := spec_l3Pack_in.mono_l k
  refine ⟨?_, ?_⟩
  · intro y0 y1 y2 y3
    unfold spec_l3Pack_in.l0
    repeat' with_reducible first | exact ih0 _ _ _ _ | exact ih1 _ _ _ | exact spec_l3List.mono _ _ | exact LeO.refl _ | exact LeO.none _ | refine LeO.ite ?_ ?_ | refine LeO.bind ?_ (fun _ => ?_)
  · intro y0 y1 y2
    unfold spec_l3Pack_in.l1
    repeat' with_reducible first | exact ih0 _ _ _ _ | exact ih1 _ _ _ | exact spec_l3List.mono _ _ | exact LeO.refl _ | exact LeO.none _ | refine LeO.ite ?_ ?_ | refine LeO.bind ?_ (fun _ => ?_)
theorem spec_l3Pack_in.mono : ∀ a0 a1 k, LeO (spec_l3Pack_in.f k a0 a1) (spec_l3Pack_in.f (k + 1) a0 a1) := by
 intro a0 a1 k
 obtain ⟨ih0, ih1⟩ := spec_l3Pack_in.mono_l k
 unfold spec_l3Pack_in.f
 repeat' with_reducible first | exact ih0 _ _ _ _ | exact ih1 _ _ _ | exact spec_l3List.mono _ _ | exact LeO.refl _ | exact LeO.none _ | refine LeO.ite ?_ ?_ | refine LeO.bind ?_ (fun _ => ?_)
def spec_l3Pack_in.T1 : Bool × List (List Nat × List Nat) := (true, [([], []), ([0], [0]), ([1], [1]), ([2], [2]), ([3], [3]), ([], []), ([5], [5]), ([6], [6]), ([7], [7]), ([8], [8]), ([9, 4], [9]), ([4, 10, 10], [4, 10]), ([11, 11, 0, 1, 2, 3, 4, 5, 6, 7, 8, 9, 10, 11], [11])])
def spec_l3Pack_in.B1 : List Nat := [0, 1, 3, 7, 15, 0, 32, 96, 224, 480, 1023, 2047, 4095]
theorem spec_l3Pack_in.tab1 : rtab .any (opsOf Try.f71 1) = spec_l3Pack_in.T1 := by kernel_rfl
theorem spec_l3Pack_in.bits1 : waitsOk spec_l3Pack_in.T1.2 spec_l3Pack_in.B1 = true := by kernel_rfl
def spec_l3Pack_in.T5 : Bool × List (List Nat × List Nat) := (true, [([], []), ([], []), ([1], [1]), ([2], [2]), ([3], [3]), ([], []), ([4, 5], [4, 5]), ([6], [6]), ([7], [7]), ([8], [8]), ([0, 9, 9], [0, 9]), ([], []), ([11], [11]), ([12], [12]), ([13], [13]), ([], []), ([14, 15], [14, 15]), ([16], [16]), ([17], [17]), ([18, 10], [18]), ([10, 19, 19], [10, 19]), ([20, 20, 0, 1, 2, 3, 4, 5, 6, 7, 8, 9, 10, 11, 12, 13, 14, 15, 16, 17, 18, 19, 20], [0, 20])])
def spec_l3Pack_in.B5 : List Nat := [0, 0, 2, 6, 14, 0, 62, 126, 254, 510, 1023, 0, 2048, 6144, 14336, 0, 63488, 129024, 260096, 524287, 1048575, 2097151]
theorem spec_l3Pack_in.tab5 : rtab .any (opsOf Try.f71 5) = spec_l3Pack_in.T5 := by kernel_rfl
theorem spec_l3Pack_in.bits5 : waitsOk spec_l3Pack_in.T5.2 spec_l3Pack_in.B5 = true := by kernel_rfl
def spec_l3Pack_in.T13 : Bool × List (List Nat × List Nat) := (true, [([], []), ([], []), ([1], [1]), ([2], [2]), ([3], [3]), ([], []), ([4, 5], [4, 5]), ([6], [6]), ([7], [7]), ([8], [8]), ([0, 9, 9], [0, 9]), ([], []), ([11], [11]), ([12], [12]), ([13], [13]), ([], []), ([14, 15], [14, 15]), ([16], [16]), ([17], [17]), ([18, 10], [18]), ([10, 19, 19], [10, 19]), ([20, 20, 0, 1, 2, 3, 4, 5, 6, 7, 8, 9, 10, 11, 12, 13, 14, 15, 16, 17, 18, 19, 20], [0, 20])])
def spec_l3Pack_in.B13 : List Nat := [0, 0, 2, 6, 14, 0, 62, 126, 254, 510, 1023, 0, 2048, 6144, 14336, 0, 63488, 129024, 260096, 524287, 1048575, 2097151]
theorem spec_l3Pack_in.tab13 : rtab .any (opsOf Try.f71 13) = spec_l3Pack_in.T13 := by kernel_rfl
theorem spec_l3Pack_in.bits13 : waitsOk spec_l3Pack_in.T13.2 spec_l3Pack_in.B13 = true := by kernel_rfl
theorem spec_l3Pack_in.calls (k : Nat) (A0 : Option Addr) (c0 : Nat) (l0 : List (S27)) (a1 : Bool) (r : List Int) (w : World) (hr0 : Kd.C k27 w A0 l0.length l0) (hc0 : l0.length ≤ c0) (h : spec_l3Pack_in.f k l0 a1 = some r) :
 Calls Try.prog 71 #[.pointer A0, .bool a1] w fun e w' => ∃ v0_ : Value, e = .returned (v0_) ∧ Kd.R (Kd.int .u8) 5 w' w.heap.size (fun _ => True) v0_ r ∧ Below w.heap.size w w' := by
 have HR0 := am hr0; have HC0 := am hc0; clear hr0 hc0
 have HB := am (Below.refl w.heap.size w)
 have H : (if 0 < (l0.length : Int) then ((spec_l3Put.f ((rd_T27 l0 0).f0)).bind fun t498 => ((spec_l3Put.f (((rd_T27 l0 0).f1).length : Int)).bind fun t501 => (if t498.length + t501.length < 140737488355328 then (spec_l3Pack_in.l0 k l0 a1 (t498 ++ t501) 0) else (none)))) else (none)) = some r := h
 clear h
 by_cases c3 : 0 < (l0.length : Int)
 · rw [if_pos c3] at H
   have c3b0 : decide (0 < (l0.length : Int)) = true := dt c3
   have c3b1 : decide (0 < l0.length) = true := dt (by omega)
   clear c3
   obtain ⟨t498, A40, H⟩ := bO H
   replace H : ((spec_l3Put.f (((rd_T27 l0 0).f1).length : Int)).bind fun t501 => (if t498.length + t501.length < 140737488355328 then (spec_l3Pack_in.l0 k l0 a1 (t498 ++ t501) 0) else (none))) = some r := H
   have A4 := am A40; clear A40
   obtain ⟨t501, A50, H⟩ := bO H
   replace H : (if t498.length + t501.length < 140737488355328 then (spec_l3Pack_in.l0 k l0 a1 (t498 ++ t501) 0) else (none)) = some r := H
   have A5 := am A50; clear A50
   by_cases c6 : t498.length + t501.length < 140737488355328
   · rw [if_pos c6] at H
     have LMc6 := am c6; clear c6
     obtain ⟨y504, hy504⟩ : ∃ y_ : List Int, y_ = (t498 ++ t501) := ⟨_, rfl⟩
     replace H : (spec_l3Pack_in.l0 k l0 a1 y504 0) = some r := by first | (rw [hy504]; with_reducible exact H) | (have H2_ := (Option.bind_some _ _).symm.trans H; rw [hy504]; with_reducible exact H2_) | (have H2_ := (Option.bind_some _ _).symm.trans H; with_reducible exact H2_) | with_reducible exact H | (rw [hy504]; exact H) | exact H
     have Ny504 := am hy504; clear hy504
     have H' := am H
     clear H
     go_enter Try.func71, Try.ntmps71
     try go_wp2
     have n_ := am (below_drew1 HB.out)
     clear HB; have HB := n_; clear n_
     have p497 : 0 ≤ (0 : Int) := (by omega)
     have q497 : 0 < (l0.length : Int) := pD
     obtain ⟨ad497, A497_1, c497_1, A497_2, c497_2, e497, hx497_0, hx497_1, hx497_2, hl497_1, hi497_1, hl497_2, hi497_2⟩ := at_T27 HR0.out 0 p497 q497
     have hw497_2 := hx497_2
     (try rw [z0, zm, az] at hw497_2)
     have hw497_1 := hx497_1
     (try rw [z0, zm, az] at hw497_1)
     have hw497_0 := hx497_0
     (try rw [z0, zm, az] at hw497_0); cases e497
     have qi497 : (0 < l0.length) = True := eq_true (by omega)
     (try rw [z0, zm, az] at hx497_0); (try rw [z0, zm, az] at hx497_1); (try rw [z0, zm, az] at hx497_2); replace hx497_0 := cb HB hx497_0; replace hx497_1 := cb HB hx497_1; replace hx497_2 := cb HB hx497_2; have HR497_1 := am hi497_1; have HC497_1 := am hl497_1; clear hi497_1 hl497_1; have HR497_2 := am hi497_2; have HC497_2 := am hl497_2; clear hi497_2 hl497_2; replace p497 := eq_true p497; replace q497 := eq_true q497
     refine start_ (n := 13) (S := fun w' => w'.cell? ad497 = some (.int .i64 ((rd_T27 l0 0).f0)) ∧ w'.cell? ⟨ad497.block, ad497.off + 1, none⟩ = some (.slice A497_1 ((rd_T27 l0 0).f1).length c497_1) ∧ w'.cell? ⟨ad497.block, ad497.off + 2, none⟩ = some (.slice A497_2 ((rd_T27 l0 0).f2).length c497_2)) (ds := []) #[false, false, false, false, false, false, false, false, false, false, false, false, false] (by kernel_rfl) rfl rfl ⟨(cb HB hw497_0), (cb HB hw497_1), (cb HB hw497_2)⟩ (fun hHeld => ?_); refine with_tabW spec_l3Pack_in.tab1 spec_l3Pack_in.bits1 (fun HT_ HW_ => ?_)
     generalize w.drew = w7 at HB HR497_1 HR497_2 hx497_0 hx497_1 hx497_2 hHeld ⊢
     refine pure_ (i := 0) (N := some 8) (v := ?_) (a' := ?_) #[true, false, false, false, false, false, false, false, false, false, false, false, false] rfl rfl (any_of HT_.out (by kernel_rfl)) (fun _ _ _ h => h) (Or.inl ⟨by rfl, ?_⟩) ?_ ?_
     rotate_left
     · intro w'
       go_simp
       with_reducible rfl
     rotate_left
     · simp only [Act.put, List.setIfInBounds_toArray, List.set_cons_zero, List.set_cons_succ, i64_w, i32_w]
       rfl
     refine pure_ (i := 1) (N := some 9) (v := ?_) (a' := ?_) #[true, true, false, false, false, false, false, false, false, false, false, false, false] rfl rfl (any_of HT_.out (by kernel_rfl)) (fun _ _ _ h => h) (Or.inl ⟨by rfl, ?_⟩) ?_ ?_
     rotate_left
     · intro w'
       go_simp
       with_reducible rfl
     rotate_left
     · simp only [Act.put, List.setIfInBounds_toArray, List.set_cons_zero, List.set_cons_succ, i64_w, i32_w]
       rfl
     refine pure_ (i := 2) (N := some 10) (v := ?_) (a' := ?_) #[true, true, true, false, false, false, false, false, false, false, false, false, false] rfl rfl (any_of HT_.out (by kernel_rfl)) (fun _ _ _ h => h) (Or.inl ⟨by rfl, ?_⟩) ?_ ?_
     rotate_left
     · intro w'
       go_simp
       with_reducible rfl
     rotate_left
     · simp only [Act.put, List.setIfInBounds_toArray, List.set_cons_zero, List.set_cons_succ, i64_w, i32_w]
       rfl
     refine pure_ (i := 5) (N := some 13) (v := ?_) (a' := ?_) #[true, true, true, false, false, true, false, false, false, false, false, false, false] rfl rfl (any_of HT_.out (by kernel_rfl)) (fun _ _ _ h => h) (Or.inl ⟨by rfl, ?_⟩) ?_ ?_
     rotate_left
     · intro w'
       go_simp
       with_reducible rfl
     rotate_left
     · simp only [Act.put, List.setIfInBounds_toArray, List.set_cons_zero, List.set_cons_succ, i64_w, i32_w]
       rfl
     refine pure_ (i := 6) (N := some 14) (v := ?_) (a' := ?_) #[true, true, true, false, false, true, true, false, false, false, false, false, false] rfl rfl (any_of HT_.out (by kernel_rfl)) (fun _ _ _ h => h) (Or.inl ⟨by rfl, ?_⟩) ?_ ?_
     rotate_left
     · intro w'
       go_simp
       with_reducible rfl
     rotate_left
     · simp only [Act.put, List.setIfInBounds_toArray, List.set_cons_zero, List.set_cons_succ, i64_w, i32_w]
       rfl
     refine pure_ (i := 7) (N := some 15) (v := ?_) (a' := ?_) #[true, true, true, false, false, true, true, true, false, false, false, false, false] rfl rfl (any_of HT_.out (by kernel_rfl)) (fun _ _ _ h => h) (Or.inl ⟨by rfl, ?_⟩) ?_ ?_
     rotate_left
     · intro w'
       go_simp
       with_reducible rfl
     rotate_left
     · simp only [Act.put, List.setIfInBounds_toArray, List.set_cons_zero, List.set_cons_succ, i64_w, i32_w]
       rfl
     refine take_ (i := 3) (N := some 11) (v := ?_) (a' := ?_) #[true, true, true, true, false, true, true, true, false, false, false, false, false] rfl rfl (take_ofW HT_.out HW_.out (by kernel_rfl)) (fun _ _ _ h => h) (Or.inl ⟨by rfl, ?_⟩) hHeld ?_ ?_
     rotate_left
     · rintro w' ⟨s0, s1, s2⟩
       go_simp
       with_reducible rfl
     rotate_left
     · simp only [Act.put, List.setIfInBounds_toArray, List.set_cons_zero, List.set_cons_succ, i64_w, i32_w]
       rfl
     refine take_ (i := 8) (N := some 16) (v := ?_) (a' := ?_) #[true, true, true, true, false, true, true, true, true, false, false, false, false] rfl rfl (take_ofW HT_.out HW_.out (by kernel_rfl)) (fun _ _ _ h => h) (Or.inl ⟨by rfl, ?_⟩) hHeld ?_ ?_
     rotate_left
     · rintro w' ⟨s0, s1, s2⟩
       go_simp
       with_reducible rfl
     rotate_left
     · simp only [Act.put, List.setIfInBounds_toArray, List.set_cons_zero, List.set_cons_succ, i64_w, i32_w]
       rfl
     refine pure_ (i := 9) (N := some 17) (v := ?_) (a' := ?_) #[true, true, true, true, false, true, true, true, true, true, false, false, false] rfl rfl (any_of HT_.out (by kernel_rfl)) (fun _ _ _ h => h) (Or.inl ⟨by rfl, ?_⟩) ?_ ?_
     rotate_left
     · intro w'
       go_simp
       with_reducible rfl
     rotate_left
     · simp only [Act.put, List.setIfInBounds_toArray, List.set_cons_zero, List.set_cons_succ, i64_w, i32_w]
       rfl
     refine one_ (i := 4) (N := some 12) #[true, true, true, true, true, true, true, true, true, true, false, false, false] rfl rfl (one_of HT_.out (by kernel_rfl)) (by decide) (fun K hK => ?_)
     refine goes_ Try.func80 (by kernel_rfl) rfl #[.int .i64 ((rd_T27 l0 0).f0)] (by rfl) rfl rfl pA ?_
     with_reducible refine (spec_l3Put.calls ((rd_T27 l0 0).f0) t498 _ A4.out).mono ?_
     rintro e w8 ⟨v499, rfl, ho0, hb⟩
     refine ⟨_, rfl, ?_⟩
     have n_ := t2 (rL ho0 (bs_ pB)) (bz_ pB hb)
     clear HB; obtain ⟨HO500, HB⟩ := n_; (try clear hb); (try clear hb2); (try clear hk); (try clear hi); (try clear ho0)
     refine hK.out _ _ ⟨(cb HB hw497_0), (cb HB hw497_1), (cb HB hw497_2)⟩ (fun hHeld => ?_)
     clear hK K
     refine norm_ (a' := ?_) ?_ ?_
     rotate_left
     · show Act.put _ (some 12) _ = _
       simp only [Act.put, List.setIfInBounds_toArray, List.set_cons_zero, List.set_cons_succ, i64_w, i32_w]
       rfl
     refine one_ (i := 10) (N := some 18) #[true, true, true, true, true, true, true, true, true, true, true, false, false] rfl rfl (one_of HT_.out (by kernel_rfl)) (by decide) (fun K hK => ?_)
     refine goes_ Try.func80 (by kernel_rfl) rfl #[.int .i64 (((rd_T27 l0 0).f1).length : Int)] (by rfl) rfl rfl pA ?_
     with_reducible refine (spec_l3Put.calls (((rd_T27 l0 0).f1).length : Int) t501 _ A5.out).mono ?_
     rintro e w9 ⟨v502, rfl, ho0, hb⟩
     refine ⟨_, rfl, ?_⟩
     have n_ := t3 (rE (pR HO500) (rB ho0) hb) (rL (rW ho0 (Kd.R_lt (pR HO500))) (bs_ pB)) (bz_ pB hb)
     clear HO500 HB; obtain ⟨HO500, HO503, HB⟩ := n_; (try clear hb); (try clear hb2); (try clear hk); (try clear hi); (try clear ho0)
     obtain ⟨Ao11, co11, eo11⟩ := rS HO503.out
     (first | subst eo11 | (injection eo11 with f1_ f2_ f3_; have f4_ := f1_.symm; have f5_ := f3_.symm; clear f1_ f2_ f3_; subst f4_; subst f5_))
     refine hK.out _ _ ⟨(cb HB hw497_0), (cb HB hw497_1), (cb HB hw497_2)⟩ (fun hHeld => ?_)
     clear hK K
     refine norm_ (a' := ?_) ?_ ?_
     rotate_left
     · show Act.put _ (some 18) _ = _
       simp only [Act.put, List.setIfInBounds_toArray, List.set_cons_zero, List.set_cons_succ, i64_w, i32_w]
       rfl
     refine one_ (i := 11) (N := some 19) #[true, true, true, true, true, true, true, true, true, true, true, true, false] rfl rfl (one_of HT_.out (by kernel_rfl)) (by decide) (fun K hK => ?_)
     refine Kd.R_append_rows_step (Kd.int .u8) (w0 := w) w.heap.size (by rfl) (.tmp 12) (.tmp 18) 22 5 (.int .u8 0) 1 rfl Try.underlying22 info5 rfl (by decide) (by omega) v499 t498 t501 _ _ _ (fun k_ => some k_ ≠ (.slice Ao11 t501.length co11 : Value).ownBlock) (fun _ => False) rfl rfl ?aO ?aR (fun _ _ h => h) (fun _ h => h.elim) ?aF ?aB ?aS ?aL ?_
     (case aR => exact pC (rr HO503.out).2.2)
     (case aB => exact pB)
     (case aF => exact (fun k_ hk => Kd.fresh' (Kd.R_lt (pR HO503)) k_ hk))
     (case aO => exact (pT (Kd.R_mono HO500.out (fun _ hk => hk.2))))
     (case aS => exact (bs_ pB))
     (case aL => have := LMc6.out; omega)
     intro v505 w10 ho hb hg hat
     rw [← Ny504.out] at ho
     have n_ := t3 (Kd.R_after (ok := (fun _ => True)) (pR HO503) hg hat) (hb) (ho)
     clear HO503 HB HO500; obtain ⟨HO503, HB, HO506⟩ := n_; clear ho hb hg hat
     refine hK.out _ _ ⟨(cb HB hw497_0), (cb HB hw497_1), (cb HB hw497_2)⟩ (fun hHeld => ?_)
     clear hK K
     refine norm_ (a' := ?_) ?_ ?_
     rotate_left
     · show Act.put _ (some 19) _ = _
       simp only [Act.put, List.setIfInBounds_toArray, List.set_cons_zero, List.set_cons_succ, i64_w, i32_w]
       rfl
     refine pure_ (i := 12) (N := some 5) (v := ?_) (a' := ?_) #[true, true, true, true, true, true, true, true, true, true, true, true, true] rfl rfl (any_of HT_.out (by kernel_rfl)) (fun _ _ _ h => h) (Or.inl ⟨by rfl, ?_⟩) ?_ ?_
     rotate_left
     · intro w'
       go_simp
       with_reducible rfl
     rotate_left
     · simp only [Act.put, List.setIfInBounds_toArray, List.set_cons_zero, List.set_cons_succ, i64_w, i32_w]
       rfl
     refine done_ (done_of HT_.out (by kernel_rfl)) ?_
     try go_wp2
     go_loopg [5, 6] k (fun kq v5 v6 w' => ∃ (x5_1 : List Int) (x6_1 : Int), v6 = .int .i64 x6_1 ∧ Aside0 (spec_l3Pack_in.l0 kq l0 a1 x5_1 x6_1 = some r) ∧ Aside0 (kq ≤ k) ∧ Aside0 (Kd.R (Kd.int .u8) 5 w' w.heap.size (fun _ => True) v5 x5_1) ∧ Aside0 (Below w.heap.size w w'))
     case atStart => exact ⟨(y504), (0), pF, H', ⟨Nat.le_refl _⟩, ⟨(pT (Kd.R_mono HO506.out (fun _ hk => trivial)))⟩, ⟨pB⟩⟩
     case round =>
      clear H'
      (try clear c3); (try clear c3b0); (try clear c3b1); (try clear c6); (try clear hx497_0); (try clear hx497_1); (try clear hx497_2); (try clear p497); (try clear q497)
      obtain ⟨x5_1, x6_1, rfl, HA, HK1, HO_5, HB⟩ := hrel
      cases gk with
      | zero => exact absurd HA.out (by simp [spec_l3Pack_in.l0])
      | succ k1 =>
       have H := HA.out
       clear HA
       simp only [spec_l3Pack_in.l0] at H
       by_cases c12 : 0 < (l0.length : Int)
       · rw [if_pos c12] at H
         have c12b0 : decide (0 < (l0.length : Int)) = true := dt c12
         have c12b1 : decide (0 < l0.length) = true := dt (by omega)
         clear c12
         by_cases c13 : x6_1 < (((rd_T27 l0 0).f1).length : Int)
         · rw [if_pos c13] at H
           have c13b0 : decide (x6_1 < (((rd_T27 l0 0).f1).length : Int)) = true := dt c13
           clear c13
           by_cases c14 : 0 ≤ x6_1
           · rw [if_pos c14] at H
             have c14b0 : decide (0 ≤ x6_1) = true := dt c14
             clear c14
             obtain ⟨t510, A150, H⟩ := bO H
             replace H : (if x5_1.length + t510.length < 140737488355328 then ((some (x5_1 ++ t510 : List Int)).bind fun y513 => ((spec_l3Put.f ((rd_T34 ((rd_T27 l0 0).f1) x6_1).f1)).bind fun t517 => (if y513.length + t517.length < 140737488355328 then ((some (y513 ++ t517 : List Int)).bind fun y520 => (if a1 = true then ((spec_l3List.f k1 ((rd_T34 ((rd_T27 l0 0).f1) x6_1).f2)).bind fun t525 => (if y520.length + t525.length < 140737488355328 then (spec_l3Pack_in.l0 k1 l0 a1 (y520 ++ t525) (wrap64 (x6_1 + 1))) else (none))) else (if y520.length < 140737488355328 then (spec_l3Pack_in.l0 k1 l0 a1 (y520 ++ [0]) (wrap64 (x6_1 + 1))) else (none)))) else (none)))) else (none)) = some r := H
             have A15 := am A150; clear A150
             by_cases c16 : x5_1.length + t510.length < 140737488355328
             · rw [if_pos c16] at H
               have LMc16 := am c16; clear c16
               obtain ⟨y513, hy513⟩ : ∃ y_ : List Int, y_ = (x5_1 ++ t510) := ⟨_, rfl⟩
               replace H : ((spec_l3Put.f ((rd_T34 ((rd_T27 l0 0).f1) x6_1).f1)).bind fun t517 => (if y513.length + t517.length < 140737488355328 then ((some (y513 ++ t517 : List Int)).bind fun y520 => (if a1 = true then ((spec_l3List.f k1 ((rd_T34 ((rd_T27 l0 0).f1) x6_1).f2)).bind fun t525 => (if y520.length + t525.length < 140737488355328 then (spec_l3Pack_in.l0 k1 l0 a1 (y520 ++ t525) (wrap64 (x6_1 + 1))) else (none))) else (if y520.length < 140737488355328 then (spec_l3Pack_in.l0 k1 l0 a1 (y520 ++ [0]) (wrap64 (x6_1 + 1))) else (none)))) else (none))) = some r := by first | (rw [hy513]; with_reducible exact H) | (have H2_ := (Option.bind_some _ _).symm.trans H; rw [hy513]; with_reducible exact H2_) | (have H2_ := (Option.bind_some _ _).symm.trans H; with_reducible exact H2_) | with_reducible exact H | (rw [hy513]; exact H) | exact H
               have Ny513 := am hy513; clear hy513
               obtain ⟨t517, A170, H⟩ := bO H
               replace H : (if y513.length + t517.length < 140737488355328 then ((some (y513 ++ t517 : List Int)).bind fun y520 => (if a1 = true then ((spec_l3List.f k1 ((rd_T34 ((rd_T27 l0 0).f1) x6_1).f2)).bind fun t525 => (if y520.length + t525.length < 140737488355328 then (spec_l3Pack_in.l0 k1 l0 a1 (y520 ++ t525) (wrap64 (x6_1 + 1))) else (none))) else (if y520.length < 140737488355328 then (spec_l3Pack_in.l0 k1 l0 a1 (y520 ++ [0]) (wrap64 (x6_1 + 1))) else (none)))) else (none)) = some r := H
               have A17 := am A170; clear A170
               by_cases c18 : y513.length + t517.length < 140737488355328
               · rw [if_pos c18] at H
                 have LMc18 := am c18; clear c18
                 obtain ⟨y520, hy520⟩ : ∃ y_ : List Int, y_ = (y513 ++ t517) := ⟨_, rfl⟩
                 replace H : (if a1 = true then ((spec_l3List.f k1 ((rd_T34 ((rd_T27 l0 0).f1) x6_1).f2)).bind fun t525 => (if y520.length + t525.length < 140737488355328 then (spec_l3Pack_in.l0 k1 l0 a1 (y520 ++ t525) (wrap64 (x6_1 + 1))) else (none))) else (if y520.length < 140737488355328 then (spec_l3Pack_in.l0 k1 l0 a1 (y520 ++ [0]) (wrap64 (x6_1 + 1))) else (none))) = some r := by first | (rw [hy520]; with_reducible exact H) | (have H2_ := (Option.bind_some _ _).symm.trans H; rw [hy520]; with_reducible exact H2_) | (have H2_ := (Option.bind_some _ _).symm.trans H; with_reducible exact H2_) | with_reducible exact H | (rw [hy520]; exact H) | exact H
                 have Ny520 := am hy520; clear hy520
                 by_cases c19 : a1 = true
                 · subst c19
                   have H1 : ((spec_l3List.f k1 ((rd_T34 ((rd_T27 l0 0).f1) x6_1).f2)).bind fun t525 => (if y520.length + t525.length < 140737488355328 then (spec_l3Pack_in.l0 k1 l0 true (y520 ++ t525) (wrap64 (x6_1 + 1))) else (none))) = some r := by rw [if_pos rfl] at H; exact H
                   clear H; have H := H1; clear H1
                   obtain ⟨t525, A200, H⟩ := bO H
                   replace H : (if y520.length + t525.length < 140737488355328 then (spec_l3Pack_in.l0 k1 l0 true (y520 ++ t525) (wrap64 (x6_1 + 1))) else (none)) = some r := H
                   have A20 := am A200; clear A200
                   by_cases c21 : y520.length + t525.length < 140737488355328
                   · rw [if_pos c21] at H
                     have LMc21 := am c21; clear c21
                     obtain ⟨y528, hy528⟩ : ∃ y_ : List Int, y_ = (y520 ++ t525) := ⟨_, rfl⟩
                     replace H : (spec_l3Pack_in.l0 k1 l0 true y528 (wrap64 (x6_1 + 1))) = some r := by first | (rw [hy528]; with_reducible exact H) | (have H2_ := (Option.bind_some _ _).symm.trans H; rw [hy528]; with_reducible exact H2_) | (have H2_ := (Option.bind_some _ _).symm.trans H; with_reducible exact H2_) | with_reducible exact H | (rw [hy528]; exact H) | exact H
                     have Ny528 := am hy528; clear hy528
                     have H' := am H
                     clear H
                     have p507 : 0 ≤ (0 : Int) := (by omega)
                     have q507 : 0 < (l0.length : Int) := pD
                     (try clear hx497_0); (try clear hx497_1); (try clear hx497_2); (try clear hHeld)
                     obtain ⟨ad507, A507_1, c507_1, A507_2, c507_2, e507, hx507_0, hx507_1, hx507_2, hl507_1, hi507_1, hl507_2, hi507_2⟩ := at_T27 HR0.out 0 p507 q507
                     obtain rfl : ad497 = ad507 := (by injection e507)
                     have qi507 : (0 < l0.length) = True := eq_true (by omega)
                     (try rw [z0, zm, az] at hx507_0); (try rw [z0, zm, az] at hx507_1); (try rw [z0, zm, az] at hx507_2); replace hx507_0 := cb HB hx507_0; replace hx507_1 := cb HB hx507_1; replace hx507_2 := cb HB hx507_2; have HR507_1 := am hi507_1; have HC507_1 := am hl507_1; clear hi507_1 hl507_1; have HR507_2 := am hi507_2; have HC507_2 := am hl507_2; clear hi507_2 hl507_2; replace p507 := eq_true p507; replace q507 := eq_true q507
                     try go_wp2
                     have n_ := t2 (Kd.R_drew HO_5.out) (below_drew1 HB.out)
                     clear HO_5 HB; obtain ⟨HO_5, HB⟩ := n_
                     have p508 : 0 ≤ (0 : Int) := (by omega)
                     have q508 : 0 < (l0.length : Int) := pD
                     (try clear hx507_0); (try clear hx507_1); (try clear hx507_2); (try clear hHeld)
                     obtain ⟨ad508, A508_1, c508_1, A508_2, c508_2, e508, hx508_0, hx508_1, hx508_2, hl508_1, hi508_1, hl508_2, hi508_2⟩ := at_T27 HR0.out 0 p508 q508
                     have hw508_2 := hx508_2
                     (try rw [z0, zm, az] at hw508_2)
                     have hw508_1 := hx508_1
                     (try rw [z0, zm, az] at hw508_1)
                     have hw508_0 := hx508_0
                     (try rw [z0, zm, az] at hw508_0)
                     obtain rfl : ad497 = ad508 := (by injection e508)
                     have qi508 : (0 < l0.length) = True := eq_true (by omega)
                     (try rw [z0, zm, az] at hx508_0); (try rw [z0, zm, az] at hx508_1); (try rw [z0, zm, az] at hx508_2); replace hx508_0 := cb HB hx508_0; replace hx508_1 := cb HB hx508_1; replace hx508_2 := cb HB hx508_2; have HR508_1 := am hi508_1; have HC508_1 := am hl508_1; clear hi508_1 hl508_1; have HR508_2 := am hi508_2; have HC508_2 := am hl508_2; clear hi508_2 hl508_2; replace p508 := eq_true p508; replace q508 := eq_true q508
                     have p509 : 0 ≤ (x6_1 : Int) := pD
                     have q509 : x6_1 < (((rd_T27 l0 0).f1).length : Int) := pD
                     obtain ⟨ad509, A509_2, c509_2, e509, hx509_0, hx509_1, hx509_2, hl509_2, hi509_2⟩ := at_T34 HR508_1.out x6_1 p509 q509
                     have hw509_2 := hx509_2
                     have hw509_1 := hx509_1
                     have hw509_0 := hx509_0
                     cases e509; replace hx509_0 := cb HB hx509_0; replace hx509_1 := cb HB hx509_1; replace hx509_2 := cb HB hx509_2; have HR509_2 := am hi509_2; have HC509_2 := am hl509_2; clear hi509_2 hl509_2; replace p509 := eq_true p509; replace q509 := eq_true q509
                     have p516 : 0 ≤ (x6_1 : Int) := pD
                     have q516 : x6_1 < (((rd_T27 l0 0).f1).length : Int) := pD
                     obtain ⟨ad516, A516_2, c516_2, e516, hx516_0, hx516_1, hx516_2, hl516_2, hi516_2⟩ := at_T34 HR508_1.out x6_1 p516 q516
                     have hw516_2 := hx516_2
                     have hw516_1 := hx516_1
                     have hw516_0 := hx516_0
                     obtain rfl : ad509 = ad516 := (by injection e516)
                     replace hx516_0 := cb HB hx516_0; replace hx516_1 := cb HB hx516_1; replace hx516_2 := cb HB hx516_2; have HR516_2 := am hi516_2; have HC516_2 := am hl516_2; clear hi516_2 hl516_2; replace p516 := eq_true p516; replace q516 := eq_true q516
                     have ea_ := sj (hx509_2.symm.trans hx516_2)
                     injection ea_ with ea_ en_ ec_
                     subst ea_; subst ec_; clear en_
                     refine start_ (n := 22) (S := fun w' => w'.cell? ad497 = some (.int .i64 ((rd_T27 l0 0).f0)) ∧ w'.cell? ⟨ad497.block, ad497.off + 1, none⟩ = some (.slice (some ad509) ((rd_T27 l0 0).f1).length c508_1) ∧ w'.cell? ⟨ad497.block, ad497.off + 2, none⟩ = some (.slice A508_2 ((rd_T27 l0 0).f2).length c508_2) ∧ w'.cell? (ad509.add ((x6_1).toNat * 3)) = some (.int .i64 ((rd_T34 ((rd_T27 l0 0).f1) x6_1).f0)) ∧ w'.cell? ⟨(ad509.add ((x6_1).toNat * 3)).block, (ad509.add ((x6_1).toNat * 3)).off + 1, none⟩ = some (.int .i64 ((rd_T34 ((rd_T27 l0 0).f1) x6_1).f1)) ∧ w'.cell? ⟨(ad509.add ((x6_1).toNat * 3)).block, (ad509.add ((x6_1).toNat * 3)).off + 2, none⟩ = some (.slice A509_2 ((rd_T34 ((rd_T27 l0 0).f1) x6_1).f2).length c509_2) ∧ w'.cell? (ad509.add ((x6_1).toNat * 3)) = some (.int .i64 ((rd_T34 ((rd_T27 l0 0).f1) x6_1).f0)) ∧ w'.cell? ⟨(ad509.add ((x6_1).toNat * 3)).block, (ad509.add ((x6_1).toNat * 3)).off + 1, none⟩ = some (.int .i64 ((rd_T34 ((rd_T27 l0 0).f1) x6_1).f1)) ∧ w'.cell? ⟨(ad509.add ((x6_1).toNat * 3)).block, (ad509.add ((x6_1).toNat * 3)).off + 2, none⟩ = some (.slice A509_2 ((rd_T34 ((rd_T27 l0 0).f1) x6_1).f2).length c509_2)) (ds := []) #[false, false, false, false, false, false, false, false, false, false, false, false, false, false, false, false, false, false, false, false, false, false] (by kernel_rfl) rfl rfl ⟨(cb HB hw508_0), (cb HB hw508_1), (cb HB hw508_2), (cb HB hw509_0), (cb HB hw509_1), (cb HB hw509_2), (cb HB hw516_0), (cb HB hw516_1), (cb HB hw516_2)⟩ (fun hHeld => ?_); refine with_tabW spec_l3Pack_in.tab5 spec_l3Pack_in.bits5 (fun HT_ HW_ => ?_)
                     generalize wr.drew = w22 at HO_5 HB HR508_1 HR508_2 HR509_2 HR516_2 hx508_0 hx508_1 hx508_2 hx509_0 hx509_1 hx509_2 hx516_0 hx516_1 hx516_2 hHeld ⊢
                     refine pure_ (i := 0) (N := some 29) (v := ?_) (a' := ?_) #[true, false, false, false, false, false, false, false, false, false, false, false, false, false, false, false, false, false, false, false, false, false] rfl rfl (any_of HT_.out (by kernel_rfl)) (fun _ _ _ h => h) (Or.inl ⟨by rfl, ?_⟩) ?_ ?_
                     rotate_left
                     · intro w'
                       go_simp
                       with_reducible rfl
                     rotate_left
                     · simp only [Act.put, List.setIfInBounds_toArray, List.set_cons_zero, List.set_cons_succ, i64_w, i32_w]
                       rfl
                     refine pure_ (i := 1) (N := some 30) (v := ?_) (a' := ?_) #[true, true, false, false, false, false, false, false, false, false, false, false, false, false, false, false, false, false, false, false, false, false] rfl rfl (any_of HT_.out (by kernel_rfl)) (fun _ _ _ h => h) (Or.inl ⟨by rfl, ?_⟩) ?_ ?_
                     rotate_left
                     · intro w'
                       go_simp
                       with_reducible rfl
                     rotate_left
                     · simp only [Act.put, List.setIfInBounds_toArray, List.set_cons_zero, List.set_cons_succ, i64_w, i32_w]
                       rfl
                     refine pure_ (i := 2) (N := some 31) (v := ?_) (a' := ?_) #[true, true, true, false, false, false, false, false, false, false, false, false, false, false, false, false, false, false, false, false, false, false] rfl rfl (any_of HT_.out (by kernel_rfl)) (fun _ _ _ h => h) (Or.inl ⟨by rfl, ?_⟩) ?_ ?_
                     rotate_left
                     · intro w'
                       go_simp
                       with_reducible rfl
                     rotate_left
                     · simp only [Act.put, List.setIfInBounds_toArray, List.set_cons_zero, List.set_cons_succ, i64_w, i32_w]
                       rfl
                     refine pure_ (i := 3) (N := some 32) (v := ?_) (a' := ?_) #[true, true, true, true, false, false, false, false, false, false, false, false, false, false, false, false, false, false, false, false, false, false] rfl rfl (any_of HT_.out (by kernel_rfl)) (fun _ _ _ h => h) (Or.inl ⟨by rfl, ?_⟩) ?_ ?_
                     rotate_left
                     · intro w'
                       go_simp
                       with_reducible rfl
                     rotate_left
                     · simp only [Act.put, List.setIfInBounds_toArray, List.set_cons_zero, List.set_cons_succ, i64_w, i32_w]
                       rfl
                     refine pure_ (i := 5) (N := some 34) (v := ?_) (a' := ?_) #[true, true, true, true, false, true, false, false, false, false, false, false, false, false, false, false, false, false, false, false, false, false] rfl rfl (any_of HT_.out (by kernel_rfl)) (fun _ _ _ h => h) (Or.inl ⟨by rfl, ?_⟩) ?_ ?_
                     rotate_left
                     · intro w'
                       go_simp
                       with_reducible rfl
                     rotate_left
                     · simp only [Act.put, List.setIfInBounds_toArray, List.set_cons_zero, List.set_cons_succ, i64_w, i32_w]
                       rfl
                     refine pure_ (i := 11) (N := some 40) (v := ?_) (a' := ?_) #[true, true, true, true, false, true, false, false, false, false, false, true, false, false, false, false, false, false, false, false, false, false] rfl rfl (any_of HT_.out (by kernel_rfl)) (fun _ _ _ h => h) (Or.inl ⟨by rfl, ?_⟩) ?_ ?_
                     rotate_left
                     · intro w'
                       go_simp
                       with_reducible rfl
                     rotate_left
                     · simp only [Act.put, List.setIfInBounds_toArray, List.set_cons_zero, List.set_cons_succ, i64_w, i32_w]
                       rfl
                     refine pure_ (i := 12) (N := some 41) (v := ?_) (a' := ?_) #[true, true, true, true, false, true, false, false, false, false, false, true, true, false, false, false, false, false, false, false, false, false] rfl rfl (any_of HT_.out (by kernel_rfl)) (fun _ _ _ h => h) (Or.inl ⟨by rfl, ?_⟩) ?_ ?_
                     rotate_left
                     · intro w'
                       go_simp
                       with_reducible rfl
                     rotate_left
                     · simp only [Act.put, List.setIfInBounds_toArray, List.set_cons_zero, List.set_cons_succ, i64_w, i32_w]
                       rfl
                     refine pure_ (i := 13) (N := some 42) (v := ?_) (a' := ?_) #[true, true, true, true, false, true, false, false, false, false, false, true, true, true, false, false, false, false, false, false, false, false] rfl rfl (any_of HT_.out (by kernel_rfl)) (fun _ _ _ h => h) (Or.inl ⟨by rfl, ?_⟩) ?_ ?_
                     rotate_left
                     · intro w'
                       go_simp
                       with_reducible rfl
                     rotate_left
                     · simp only [Act.put, List.setIfInBounds_toArray, List.set_cons_zero, List.set_cons_succ, i64_w, i32_w]
                       rfl
                     refine pure_ (i := 15) (N := some 44) (v := ?_) (a' := ?_) #[true, true, true, true, false, true, false, false, false, false, false, true, true, true, false, true, false, false, false, false, false, false] rfl rfl (any_of HT_.out (by kernel_rfl)) (fun _ _ _ h => h) (Or.inl ⟨by rfl, ?_⟩) ?_ ?_
                     rotate_left
                     · intro w'
                       go_simp
                       with_reducible rfl
                     rotate_left
                     · simp only [Act.put, List.setIfInBounds_toArray, List.set_cons_zero, List.set_cons_succ, i64_w, i32_w]
                       rfl
                     refine take_ (i := 4) (N := some 33) (v := ?_) (a' := ?_) #[true, true, true, true, true, true, false, false, false, false, false, true, true, true, false, true, false, false, false, false, false, false] rfl rfl (take_ofW HT_.out HW_.out (by kernel_rfl)) (fun _ _ _ h => h) (Or.inl ⟨by rfl, ?_⟩) hHeld ?_ ?_
                     rotate_left
                     · rintro w' ⟨s0, s1, s2, s3, s4, s5, s6, s7, s8⟩
                       go_simp
                       with_reducible rfl
                     rotate_left
                     · simp only [Act.put, List.setIfInBounds_toArray, List.set_cons_zero, List.set_cons_succ, i64_w, i32_w]
                       rfl
                     refine pure_ (i := 6) (N := some 35) (v := ?_) (a' := ?_) #[true, true, true, true, true, true, true, false, false, false, false, true, true, true, false, true, false, false, false, false, false, false] rfl rfl (any_of HT_.out (by kernel_rfl)) (fun _ _ _ h => h) (Or.inl ⟨by rfl, ?_⟩) ?_ ?_
                     rotate_left
                     · intro w'
                       go_simp
                       with_reducible rfl
                     rotate_left
                     · simp only [Act.put, List.setIfInBounds_toArray, List.set_cons_zero, List.set_cons_succ, i64_w, i32_w]
                       rfl
                     refine pure_ (i := 7) (N := some 36) (v := ?_) (a' := ?_) #[true, true, true, true, true, true, true, true, false, false, false, true, true, true, false, true, false, false, false, false, false, false] rfl rfl (any_of HT_.out (by kernel_rfl)) (fun _ _ _ h => h) (Or.inl ⟨by rfl, ?_⟩) ?_ ?_
                     rotate_left
                     · intro w'
                       go_simp
                       with_reducible rfl
                     rotate_left
                     · simp only [Act.put, List.setIfInBounds_toArray, List.set_cons_zero, List.set_cons_succ, i64_w, i32_w]
                       rfl
                     refine take_ (i := 8) (N := some 37) (v := ?_) (a' := ?_) #[true, true, true, true, true, true, true, true, true, false, false, true, true, true, false, true, false, false, false, false, false, false] rfl rfl (take_ofW HT_.out HW_.out (by kernel_rfl)) (fun _ _ _ h => h) (Or.inl ⟨by rfl, ?_⟩) hHeld ?_ ?_
                     rotate_left
                     · rintro w' ⟨s0, s1, s2, s3, s4, s5, s6, s7, s8⟩
                       go_simp
                       with_reducible rfl
                     rotate_left
                     · simp only [Act.put, List.setIfInBounds_toArray, List.set_cons_zero, List.set_cons_succ, i64_w, i32_w]
                       rfl
                     refine take_ (i := 14) (N := some 43) (v := ?_) (a' := ?_) #[true, true, true, true, true, true, true, true, true, false, false, true, true, true, true, true, false, false, false, false, false, false] rfl rfl (take_ofW HT_.out HW_.out (by kernel_rfl)) (fun _ _ _ h => h) (Or.inl ⟨by rfl, ?_⟩) hHeld ?_ ?_
                     rotate_left
                     · rintro w' ⟨s0, s1, s2, s3, s4, s5, s6, s7, s8⟩
                       go_simp
                       with_reducible rfl
                     rotate_left
                     · simp only [Act.put, List.setIfInBounds_toArray, List.set_cons_zero, List.set_cons_succ, i64_w, i32_w]
                       rfl
                     refine pure_ (i := 16) (N := some 45) (v := ?_) (a' := ?_) #[true, true, true, true, true, true, true, true, true, false, false, true, true, true, true, true, true, false, false, false, false, false] rfl rfl (any_of HT_.out (by kernel_rfl)) (fun _ _ _ h => h) (Or.inl ⟨by rfl, ?_⟩) ?_ ?_
                     rotate_left
                     · intro w'
                       go_simp
                       with_reducible rfl
                     rotate_left
                     · simp only [Act.put, List.setIfInBounds_toArray, List.set_cons_zero, List.set_cons_succ, i64_w, i32_w]
                       rfl
                     refine pure_ (i := 17) (N := some 46) (v := ?_) (a' := ?_) #[true, true, true, true, true, true, true, true, true, false, false, true, true, true, true, true, true, true, false, false, false, false] rfl rfl (any_of HT_.out (by kernel_rfl)) (fun _ _ _ h => h) (Or.inl ⟨by rfl, ?_⟩) ?_ ?_
                     rotate_left
                     · intro w'
                       go_simp
                       with_reducible rfl
                     rotate_left
                     · simp only [Act.put, List.setIfInBounds_toArray, List.set_cons_zero, List.set_cons_succ, i64_w, i32_w]
                       rfl
                     refine take_ (i := 18) (N := some 47) (v := ?_) (a' := ?_) #[true, true, true, true, true, true, true, true, true, false, false, true, true, true, true, true, true, true, true, false, false, false] rfl rfl (take_ofW HT_.out HW_.out (by kernel_rfl)) (fun _ _ _ h => h) (Or.inl ⟨by rfl, ?_⟩) hHeld ?_ ?_
                     rotate_left
                     · rintro w' ⟨s0, s1, s2, s3, s4, s5, s6, s7, s8⟩
                       go_simp
                       with_reducible rfl
                     rotate_left
                     · simp only [Act.put, List.setIfInBounds_toArray, List.set_cons_zero, List.set_cons_succ, i64_w, i32_w]
                       rfl
                     refine one_ (i := 9) (N := some 38) #[true, true, true, true, true, true, true, true, true, true, false, true, true, true, true, true, true, true, true, false, false, false] rfl rfl (one_of HT_.out (by kernel_rfl)) (by decide) (fun K hK => ?_)
                     refine goes_ Try.func125 (by kernel_rfl) rfl #[.int .i64 ((rd_T34 ((rd_T27 l0 0).f1) x6_1).f0)] (by rfl) rfl rfl pA ?_
                     with_reducible refine (spec_l3Big.calls ((rd_T34 ((rd_T27 l0 0).f1) x6_1).f0) t510 _ A15.out).mono ?_
                     rintro e w23 ⟨v511, rfl, ho0, hb⟩
                     refine ⟨_, rfl, ?_⟩
                     have n_ := t3 (rE (pR HO_5) (rB ho0) hb) (rL (rW ho0 (Kd.R_lt (pR HO_5))) (bs_ pB)) (bz_ pB hb)
                     clear HO_5 HB; obtain ⟨HO_5, HO512, HB⟩ := n_; (try clear hb); (try clear hb2); (try clear hk); (try clear hi); (try clear ho0)
                     obtain ⟨Ao25, co25, eo25⟩ := rS HO512.out
                     (first | subst eo25 | (injection eo25 with f1_ f2_ f3_; have f4_ := f1_.symm; have f5_ := f3_.symm; clear f1_ f2_ f3_; subst f4_; subst f5_))
                     refine hK.out _ _ ⟨(cb HB hw508_0), (cb HB hw508_1), (cb HB hw508_2), (cb HB hw509_0), (cb HB hw509_1), (cb HB hw509_2), (cb HB hw516_0), (cb HB hw516_1), (cb HB hw516_2)⟩ (fun hHeld => ?_)
                     clear hK K
                     refine norm_ (a' := ?_) ?_ ?_
                     rotate_left
                     · show Act.put _ (some 38) _ = _
                       simp only [Act.put, List.setIfInBounds_toArray, List.set_cons_zero, List.set_cons_succ, i64_w, i32_w]
                       rfl
                     refine one_ (i := 10) (N := some 39) #[true, true, true, true, true, true, true, true, true, true, true, true, true, true, true, true, true, true, true, false, false, false] rfl rfl (one_of HT_.out (by kernel_rfl)) (by decide) (fun K hK => ?_)
                     refine Kd.R_append_rows_step (Kd.int .u8) (w0 := w) w.heap.size (by rfl) (.tmp 29) (.tmp 38) 22 5 (.int .u8 0) 1 rfl Try.underlying22 info5 rfl (by decide) (by omega) u5 x5_1 t510 _ _ _ (fun k_ => some k_ ≠ (.slice Ao25 t510.length co25 : Value).ownBlock) (fun _ => False) rfl rfl ?aO ?aR (fun _ _ h => h) (fun _ h => h.elim) ?aF ?aB ?aS ?aL ?_
                     (case aR => exact pC (rr HO512.out).2.2)
                     (case aB => exact pB)
                     (case aF => exact (fun k_ hk => Kd.fresh' (Kd.R_lt (pR HO512)) k_ hk))
                     (case aO => exact (pT (Kd.R_mono HO_5.out (fun _ hk => hk.2))))
                     (case aS => exact (bs_ pB))
                     (case aL => have := LMc16.out; omega)
                     intro v514 w24 ho hb hg hat
                     rw [← Ny513.out] at ho
                     have n_ := t3 (Kd.R_after (ok := (fun _ => True)) (pR HO512) hg hat) (hb) (ho)
                     clear HO512 HB HO_5; obtain ⟨HO512, HB, HO515⟩ := n_; clear ho hb hg hat
                     refine hK.out _ _ ⟨(cb HB hw508_0), (cb HB hw508_1), (cb HB hw508_2), (cb HB hw509_0), (cb HB hw509_1), (cb HB hw509_2), (cb HB hw516_0), (cb HB hw516_1), (cb HB hw516_2)⟩ (fun hHeld => ?_)
                     clear hK K
                     refine norm_ (a' := ?_) ?_ ?_
                     rotate_left
                     · show Act.put _ (some 39) _ = _
                       simp only [Act.put, List.setIfInBounds_toArray, List.set_cons_zero, List.set_cons_succ, i64_w, i32_w]
                       rfl
                     refine one_ (i := 19) (N := some 48) #[true, true, true, true, true, true, true, true, true, true, true, true, true, true, true, true, true, true, true, true, false, false] rfl rfl (one_of HT_.out (by kernel_rfl)) (by decide) (fun K hK => ?_)
                     refine goes_ Try.func80 (by kernel_rfl) rfl #[.int .i64 ((rd_T34 ((rd_T27 l0 0).f1) x6_1).f1)] (by rfl) rfl rfl pA ?_
                     with_reducible refine (spec_l3Put.calls ((rd_T34 ((rd_T27 l0 0).f1) x6_1).f1) t517 _ A17.out).mono ?_
                     rintro e w26 ⟨v518, rfl, ho0, hb⟩
                     refine ⟨_, rfl, ?_⟩
                     have n_ := t4 (rE (pR HO512) (rB ho0) hb) (rE (pR HO515) (rB ho0) hb) (rL (rW (rW ho0 (Kd.R_lt (pR HO512))) (Kd.R_lt (pR HO515))) (bs_ pB)) (bz_ pB hb)
                     clear HO512 HO515 HB; obtain ⟨HO512, HO515, HO519, HB⟩ := n_; (try clear hb); (try clear hb2); (try clear hk); (try clear hi); (try clear ho0)
                     obtain ⟨Ao28, co28, eo28⟩ := rS HO519.out
                     (first | subst eo28 | (injection eo28 with f1_ f2_ f3_; have f4_ := f1_.symm; have f5_ := f3_.symm; clear f1_ f2_ f3_; subst f4_; subst f5_))
                     refine hK.out _ _ ⟨(cb HB hw508_0), (cb HB hw508_1), (cb HB hw508_2), (cb HB hw509_0), (cb HB hw509_1), (cb HB hw509_2), (cb HB hw516_0), (cb HB hw516_1), (cb HB hw516_2)⟩ (fun hHeld => ?_)
                     clear hK K
                     refine norm_ (a' := ?_) ?_ ?_
                     rotate_left
                     · show Act.put _ (some 48) _ = _
                       simp only [Act.put, List.setIfInBounds_toArray, List.set_cons_zero, List.set_cons_succ, i64_w, i32_w]
                       rfl
                     refine one_ (i := 20) (N := some 49) #[true, true, true, true, true, true, true, true, true, true, true, true, true, true, true, true, true, true, true, true, true, false] rfl rfl (one_of HT_.out (by kernel_rfl)) (by decide) (fun K hK => ?_)
                     refine Kd.R_append_rows_step (Kd.int .u8) (w0 := w) w.heap.size (by rfl) (.tmp 39) (.tmp 48) 22 5 (.int .u8 0) 1 rfl Try.underlying22 info5 rfl (by decide) (by omega) v514 y513 t517 _ _ _ (fun k_ => some k_ ≠ (.slice Ao25 t510.length co25 : Value).ownBlock ∧ some k_ ≠ (.slice Ao28 t517.length co28 : Value).ownBlock) (fun _ => False) rfl rfl ?aO ?aR (fun _ _ h => h) (fun _ h => h.elim) ?aF ?aB ?aS ?aL ?_
                     (case aR => exact pC (rr HO519.out).2.2)
                     (case aB => exact pB)
                     (case aF => exact (fun k_ hk => ⟨Kd.fresh' (Kd.R_lt (pR HO512)) k_ hk, Kd.fresh' (Kd.R_lt (pR HO519)) k_ hk⟩))
                     (case aO => exact (pR HO515))
                     (case aS => exact (bs_ pB))
                     (case aL => have := LMc18.out; omega)
                     intro v521 w27 ho hb hg hat
                     rw [← Ny520.out] at ho
                     have n_ := t4 (Kd.R_after (ok := (fun k_ => some k_ ≠ (.slice Ao28 t517.length co28 : Value).ownBlock)) (pT (Kd.R_mono HO512.out (fun _ hk => ⟨hk.2, hk.1.2⟩))) hg hat) (Kd.R_after (ok := (fun k_ => some k_ ≠ (.slice Ao25 t510.length co25 : Value).ownBlock)) (pT (Kd.R_mono HO519.out (fun _ hk => ⟨hk.1.2, hk.2⟩))) hg hat) (hb) (ho)
                     clear HO512 HO519 HB HO515; obtain ⟨HO512, HO519, HB, HO522⟩ := n_; clear ho hb hg hat
                     refine hK.out _ _ ⟨(cb HB hw508_0), (cb HB hw508_1), (cb HB hw508_2), (cb HB hw509_0), (cb HB hw509_1), (cb HB hw509_2), (cb HB hw516_0), (cb HB hw516_1), (cb HB hw516_2)⟩ (fun hHeld => ?_)
                     clear hK K
                     refine norm_ (a' := ?_) ?_ ?_
                     rotate_left
                     · show Act.put _ (some 49) _ = _
                       simp only [Act.put, List.setIfInBounds_toArray, List.set_cons_zero, List.set_cons_succ, i64_w, i32_w]
                       rfl
                     refine pure_ (i := 21) (N := some 5) (v := ?_) (a' := ?_) #[true, true, true, true, true, true, true, true, true, true, true, true, true, true, true, true, true, true, true, true, true, true] rfl rfl (any_of HT_.out (by kernel_rfl)) (fun _ _ _ h => h) (Or.inl ⟨by rfl, ?_⟩) ?_ ?_
                     rotate_left
                     · intro w'
                       go_simp
                       with_reducible rfl
                     rotate_left
                     · simp only [Act.put, List.setIfInBounds_toArray, List.set_cons_zero, List.set_cons_succ, i64_w, i32_w]
                       rfl
                     refine done_ (done_of HT_.out (by kernel_rfl)) ?_
                     have p523 : 0 ≤ (0 : Int) := (by omega)
                     have q523 : 0 < (l0.length : Int) := pD
                     (try clear hx508_0); (try clear hx508_1); (try clear hx508_2); (try clear hx509_0); (try clear hx509_1); (try clear hx509_2); (try clear hx516_0); (try clear hx516_1); (try clear hx516_2); (try clear hHeld)
                     obtain ⟨ad523, A523_1, c523_1, A523_2, c523_2, e523, hx523_0, hx523_1, hx523_2, hl523_1, hi523_1, hl523_2, hi523_2⟩ := at_T27 HR0.out 0 p523 q523
                     obtain rfl : ad497 = ad523 := (by injection e523)
                     have qi523 : (0 < l0.length) = True := eq_true (by omega)
                     (try rw [z0, zm, az] at hx523_0); (try rw [z0, zm, az] at hx523_1); (try rw [z0, zm, az] at hx523_2); replace hx523_0 := cb HB hx523_0; replace hx523_1 := cb HB hx523_1; replace hx523_2 := cb HB hx523_2; have HR523_1 := am hi523_1; have HC523_1 := am hl523_1; clear hi523_1 hl523_1; have HR523_2 := am hi523_2; have HC523_2 := am hl523_2; clear hi523_2 hl523_2; replace p523 := eq_true p523; replace q523 := eq_true q523
                     have p524 : 0 ≤ (x6_1 : Int) := pD
                     have q524 : x6_1 < (((rd_T27 l0 0).f1).length : Int) := pD
                     obtain ⟨ad524, A524_2, c524_2, e524, hx524_0, hx524_1, hx524_2, hl524_2, hi524_2⟩ := at_T34 HR523_1.out x6_1 p524 q524
                     cases e524; replace hx524_0 := cb HB hx524_0; replace hx524_1 := cb HB hx524_1; replace hx524_2 := cb HB hx524_2; have HR524_2 := am hi524_2; have HC524_2 := am hl524_2; clear hi524_2 hl524_2; replace p524 := eq_true p524; replace q524 := eq_true q524
                     try go_wp2_with (first | ((with_reducible refine gC (f := 126) rfl ?_); refine goesL_ (some 60) rfl rfl Try.func126 (by kernel_rfl) rfl #[.slice A524_2 ((rd_T34 ((rd_T27 l0 0).f1) x6_1).f2).length c524_2] rfl pA ?_; (with_reducible refine (spec_l3List.calls k1 _ _ ((rd_T34 ((rd_T27 l0 0).f1) x6_1).f2) t525 _ ?side1 ?side2 A20.out).mono ?_); (case side1 => exact pC (Kd.C_below HR524_2.out HB.out)); (case side2 => exact HC524_2.out); rintro e w29 ⟨v526, rfl, ho0, hb⟩; refine ⟨_, rfl, ?_⟩; have n_ := t5 (rE (pR HO512) (rB ho0) hb) (rE (pR HO519) (rB ho0) hb) (rE (pR HO522) (rB ho0) hb) (rL (rW (rW (rW ho0 (Kd.R_lt (pR HO512))) (Kd.R_lt (pR HO519))) (Kd.R_lt (pR HO522))) (bs_ pB)) (bz_ pB hb); clear HO512 HO519 HO522 HB; obtain ⟨HO512, HO519, HO522, HO527, HB⟩ := n_; (try clear hb); (try clear ho0); obtain ⟨Ao31, co31, eo31⟩ := rS HO527.out; subst eo31) | ((with_reducible refine gB (b := .append) (xs := #[.tmp 51, .tmp 60]) rfl ?_); at_builtin; refine Kd.R_append_rows (Kd.int .u8) (w0 := w) w.heap.size rfl (.tmp 51) (.tmp 60) 22 5 (.int .u8 0) 1 rfl Try.underlying22 info5 rfl (by decide) (by omega) v521 y520 t525 _ _ _ (fun k_ => some k_ ≠ (.slice Ao25 t510.length co25 : Value).ownBlock ∧ some k_ ≠ (.slice Ao28 t517.length co28 : Value).ownBlock ∧ some k_ ≠ (.slice Ao31 t525.length co31 : Value).ownBlock) (fun _ => False) rfl rfl ?aO ?aR (fun _ _ h => h) (fun _ h => h.elim) ?aF ?aB ?aS ?aL ?_; (case aR => exact pC (rr HO527.out).2.2); (case aB => exact pB); (case aF => exact (fun k_ hk => ⟨Kd.fresh' (Kd.R_lt (pR HO512)) k_ hk, Kd.fresh' (Kd.R_lt (pR HO519)) k_ hk, Kd.fresh' (Kd.R_lt (pR HO527)) k_ hk⟩)); (case aO => exact (pT (Kd.R_mono HO522.out (fun _ hk => ⟨hk.1.1, ⟨hk.1.2, hk.2⟩⟩)))); (case aS => exact (bs_ pB)); (case aL => have := LMc21.out; omega); intro v529 w30 ho hb hg hat; rw [← Ny528.out] at ho; have n_ := t5 (Kd.R_after (ok := (fun k_ => some k_ ≠ (.slice Ao28 t517.length co28 : Value).ownBlock ∧ some k_ ≠ (.slice Ao31 t525.length co31 : Value).ownBlock)) (pT (Kd.R_mono HO512.out (fun _ hk => ⟨⟨hk.1.1, hk.2⟩, hk.1.2⟩))) hg hat) (Kd.R_after (ok := (fun k_ => some k_ ≠ (.slice Ao25 t510.length co25 : Value).ownBlock ∧ some k_ ≠ (.slice Ao31 t525.length co31 : Value).ownBlock)) (pT (Kd.R_mono HO519.out (fun _ hk => ⟨⟨hk.1.1, hk.2⟩, hk.1.2⟩))) hg hat) (Kd.R_after (ok := (fun k_ => some k_ ≠ (.slice Ao25 t510.length co25 : Value).ownBlock ∧ some k_ ≠ (.slice Ao28 t517.length co28 : Value).ownBlock)) (pT (Kd.R_mono HO527.out (fun _ hk => ⟨⟨hk.1.1.2, hk.1.2⟩, hk.2⟩))) hg hat) (hb) (ho); clear HO512 HO519 HO527 HB HO522; obtain ⟨HO512, HO519, HO527, HB, HO530⟩ := n_; clear ho hb hg hat))
                     go_roundg k1
                     case measure => have := HK1.out; omega
                     case rel => exact ⟨(y528), (wrap64 (x6_1 + 1)), pF, H', ⟨by have := HK1.out; omega⟩, ⟨(pT (Kd.R_mono HO530.out (fun _ hk => trivial)))⟩, ⟨pB⟩⟩
                   · rw [if_neg c21] at H
                     exact absurd H (by simp)
                 · replace c19 := Bool.eq_false_iff.mpr c19
                   subst c19
                   have H1 : (if y520.length < 140737488355328 then (spec_l3Pack_in.l0 k1 l0 false (y520 ++ [0]) (wrap64 (x6_1 + 1))) else (none)) = some r := by rw [if_neg (show ¬ (false = true) by decide)] at H; exact H
                   clear H; have H := H1; clear H1
                   by_cases c32 : y520.length < 140737488355328
                   · rw [if_pos c32] at H
                     have LMc32 := am c32; clear c32
                     obtain ⟨y531, hy531⟩ : ∃ y_ : List Int, y_ = (y520 ++ [0]) := ⟨_, rfl⟩
                     replace H : (spec_l3Pack_in.l0 k1 l0 false y531 (wrap64 (x6_1 + 1))) = some r := by first | (rw [hy531]; with_reducible exact H) | (have H2_ := (Option.bind_some _ _).symm.trans H; rw [hy531]; with_reducible exact H2_) | (have H2_ := (Option.bind_some _ _).symm.trans H; with_reducible exact H2_) | with_reducible exact H | (rw [hy531]; exact H) | exact H
                     have Ny531 := am hy531; clear hy531
                     have H' := am H
                     clear H
                     have p507 : 0 ≤ (0 : Int) := (by omega)
                     have q507 : 0 < (l0.length : Int) := pD
                     obtain ⟨ad507, A507_1, c507_1, A507_2, c507_2, e507, hx507_0, hx507_1, hx507_2, hl507_1, hi507_1, hl507_2, hi507_2⟩ := at_T27 HR0.out 0 p507 q507
                     obtain rfl : ad497 = ad507 := (by injection e507)
                     have qi507 : (0 < l0.length) = True := eq_true (by omega)
                     (try rw [z0, zm, az] at hx507_0); (try rw [z0, zm, az] at hx507_1); (try rw [z0, zm, az] at hx507_2); replace hx507_0 := cb HB hx507_0; replace hx507_1 := cb HB hx507_1; replace hx507_2 := cb HB hx507_2; have HR507_1 := am hi507_1; have HC507_1 := am hl507_1; clear hi507_1 hl507_1; have HR507_2 := am hi507_2; have HC507_2 := am hl507_2; clear hi507_2 hl507_2; replace p507 := eq_true p507; replace q507 := eq_true q507
                     try go_wp2
                     have n_ := t2 (Kd.R_drew HO_5.out) (below_drew1 HB.out)
                     clear HO_5 HB; obtain ⟨HO_5, HB⟩ := n_
                     have p508 : 0 ≤ (0 : Int) := (by omega)
                     have q508 : 0 < (l0.length : Int) := pD
                     (try clear hx507_0); (try clear hx507_1); (try clear hx507_2); (try clear hHeld)
                     obtain ⟨ad508, A508_1, c508_1, A508_2, c508_2, e508, hx508_0, hx508_1, hx508_2, hl508_1, hi508_1, hl508_2, hi508_2⟩ := at_T27 HR0.out 0 p508 q508
                     have hw508_2 := hx508_2
                     (try rw [z0, zm, az] at hw508_2)
                     have hw508_1 := hx508_1
                     (try rw [z0, zm, az] at hw508_1)
                     have hw508_0 := hx508_0
                     (try rw [z0, zm, az] at hw508_0)
                     obtain rfl : ad497 = ad508 := (by injection e508)
                     have qi508 : (0 < l0.length) = True := eq_true (by omega)
                     (try rw [z0, zm, az] at hx508_0); (try rw [z0, zm, az] at hx508_1); (try rw [z0, zm, az] at hx508_2); replace hx508_0 := cb HB hx508_0; replace hx508_1 := cb HB hx508_1; replace hx508_2 := cb HB hx508_2; have HR508_1 := am hi508_1; have HC508_1 := am hl508_1; clear hi508_1 hl508_1; have HR508_2 := am hi508_2; have HC508_2 := am hl508_2; clear hi508_2 hl508_2; replace p508 := eq_true p508; replace q508 := eq_true q508
                     have p509 : 0 ≤ (x6_1 : Int) := pD
                     have q509 : x6_1 < (((rd_T27 l0 0).f1).length : Int) := pD
                     obtain ⟨ad509, A509_2, c509_2, e509, hx509_0, hx509_1, hx509_2, hl509_2, hi509_2⟩ := at_T34 HR508_1.out x6_1 p509 q509
                     have hw509_2 := hx509_2
                     have hw509_1 := hx509_1
                     have hw509_0 := hx509_0
                     cases e509; replace hx509_0 := cb HB hx509_0; replace hx509_1 := cb HB hx509_1; replace hx509_2 := cb HB hx509_2; have HR509_2 := am hi509_2; have HC509_2 := am hl509_2; clear hi509_2 hl509_2; replace p509 := eq_true p509; replace q509 := eq_true q509
                     have p516 : 0 ≤ (x6_1 : Int) := pD
                     have q516 : x6_1 < (((rd_T27 l0 0).f1).length : Int) := pD
                     obtain ⟨ad516, A516_2, c516_2, e516, hx516_0, hx516_1, hx516_2, hl516_2, hi516_2⟩ := at_T34 HR508_1.out x6_1 p516 q516
                     have hw516_2 := hx516_2
                     have hw516_1 := hx516_1
                     have hw516_0 := hx516_0
                     obtain rfl : ad509 = ad516 := (by injection e516)
                     replace hx516_0 := cb HB hx516_0; replace hx516_1 := cb HB hx516_1; replace hx516_2 := cb HB hx516_2; have HR516_2 := am hi516_2; have HC516_2 := am hl516_2; clear hi516_2 hl516_2; replace p516 := eq_true p516; replace q516 := eq_true q516
                     have ea_ := sj (hx509_2.symm.trans hx516_2)
                     injection ea_ with ea_ en_ ec_
                     subst ea_; subst ec_; clear en_
                     refine start_ (n := 22) (S := fun w' => w'.cell? ad497 = some (.int .i64 ((rd_T27 l0 0).f0)) ∧ w'.cell? ⟨ad497.block, ad497.off + 1, none⟩ = some (.slice (some ad509) ((rd_T27 l0 0).f1).length c508_1) ∧ w'.cell? ⟨ad497.block, ad497.off + 2, none⟩ = some (.slice A508_2 ((rd_T27 l0 0).f2).length c508_2) ∧ w'.cell? (ad509.add ((x6_1).toNat * 3)) = some (.int .i64 ((rd_T34 ((rd_T27 l0 0).f1) x6_1).f0)) ∧ w'.cell? ⟨(ad509.add ((x6_1).toNat * 3)).block, (ad509.add ((x6_1).toNat * 3)).off + 1, none⟩ = some (.int .i64 ((rd_T34 ((rd_T27 l0 0).f1) x6_1).f1)) ∧ w'.cell? ⟨(ad509.add ((x6_1).toNat * 3)).block, (ad509.add ((x6_1).toNat * 3)).off + 2, none⟩ = some (.slice A509_2 ((rd_T34 ((rd_T27 l0 0).f1) x6_1).f2).length c509_2) ∧ w'.cell? (ad509.add ((x6_1).toNat * 3)) = some (.int .i64 ((rd_T34 ((rd_T27 l0 0).f1) x6_1).f0)) ∧ w'.cell? ⟨(ad509.add ((x6_1).toNat * 3)).block, (ad509.add ((x6_1).toNat * 3)).off + 1, none⟩ = some (.int .i64 ((rd_T34 ((rd_T27 l0 0).f1) x6_1).f1)) ∧ w'.cell? ⟨(ad509.add ((x6_1).toNat * 3)).block, (ad509.add ((x6_1).toNat * 3)).off + 2, none⟩ = some (.slice A509_2 ((rd_T34 ((rd_T27 l0 0).f1) x6_1).f2).length c509_2)) (ds := []) #[false, false, false, false, false, false, false, false, false, false, false, false, false, false, false, false, false, false, false, false, false, false] (by kernel_rfl) rfl rfl ⟨(cb HB hw508_0), (cb HB hw508_1), (cb HB hw508_2), (cb HB hw509_0), (cb HB hw509_1), (cb HB hw509_2), (cb HB hw516_0), (cb HB hw516_1), (cb HB hw516_2)⟩ (fun hHeld => ?_); refine with_tabW spec_l3Pack_in.tab5 spec_l3Pack_in.bits5 (fun HT_ HW_ => ?_)
                     generalize wr.drew = w33 at HO_5 HB HR508_1 HR508_2 HR509_2 HR516_2 hx508_0 hx508_1 hx508_2 hx509_0 hx509_1 hx509_2 hx516_0 hx516_1 hx516_2 hHeld ⊢
                     refine pure_ (i := 0) (N := some 29) (v := ?_) (a' := ?_) #[true, false, false, false, false, false, false, false, false, false, false, false, false, false, false, false, false, false, false, false, false, false] rfl rfl (any_of HT_.out (by kernel_rfl)) (fun _ _ _ h => h) (Or.inl ⟨by rfl, ?_⟩) ?_ ?_
                     rotate_left
                     · intro w'
                       go_simp
                       with_reducible rfl
                     rotate_left
                     · simp only [Act.put, List.setIfInBounds_toArray, List.set_cons_zero, List.set_cons_succ, i64_w, i32_w]
                       rfl
                     refine pure_ (i := 1) (N := some 30) (v := ?_) (a' := ?_) #[true, true, false, false, false, false, false, false, false, false, false, false, false, false, false, false, false, false, false, false, false, false] rfl rfl (any_of HT_.out (by kernel_rfl)) (fun _ _ _ h => h) (Or.inl ⟨by rfl, ?_⟩) ?_ ?_
                     rotate_left
                     · intro w'
                       go_simp
                       with_reducible rfl
                     rotate_left
                     · simp only [Act.put, List.setIfInBounds_toArray, List.set_cons_zero, List.set_cons_succ, i64_w, i32_w]
                       rfl
                     refine pure_ (i := 2) (N := some 31) (v := ?_) (a' := ?_) #[true, true, true, false, false, false, false, false, false, false, false, false, false, false, false, false, false, false, false, false, false, false] rfl rfl (any_of HT_.out (by kernel_rfl)) (fun _ _ _ h => h) (Or.inl ⟨by rfl, ?_⟩) ?_ ?_
                     rotate_left
                     · intro w'
                       go_simp
                       with_reducible rfl
                     rotate_left
                     · simp only [Act.put, List.setIfInBounds_toArray, List.set_cons_zero, List.set_cons_succ, i64_w, i32_w]
                       rfl
                     refine pure_ (i := 3) (N := some 32) (v := ?_) (a' := ?_) #[true, true, true, true, false, false, false, false, false, false, false, false, false, false, false, false, false, false, false, false, false, false] rfl rfl (any_of HT_.out (by kernel_rfl)) (fun _ _ _ h => h) (Or.inl ⟨by rfl, ?_⟩) ?_ ?_
                     rotate_left
                     · intro w'
                       go_simp
                       with_reducible rfl
                     rotate_left
                     · simp only [Act.put, List.setIfInBounds_toArray, List.set_cons_zero, List.set_cons_succ, i64_w, i32_w]
                       rfl
                     refine pure_ (i := 5) (N := some 34) (v := ?_) (a' := ?_) #[true, true, true, true, false, true, false, false, false, false, false, false, false, false, false, false, false, false, false, false, false, false] rfl rfl (any_of HT_.out (by kernel_rfl)) (fun _ _ _ h => h) (Or.inl ⟨by rfl, ?_⟩) ?_ ?_
                     rotate_left
                     · intro w'
                       go_simp
                       with_reducible rfl
                     rotate_left
                     · simp only [Act.put, List.setIfInBounds_toArray, List.set_cons_zero, List.set_cons_succ, i64_w, i32_w]
                       rfl
                     refine pure_ (i := 11) (N := some 40) (v := ?_) (a' := ?_) #[true, true, true, true, false, true, false, false, false, false, false, true, false, false, false, false, false, false, false, false, false, false] rfl rfl (any_of HT_.out (by kernel_rfl)) (fun _ _ _ h => h) (Or.inl ⟨by rfl, ?_⟩) ?_ ?_
                     rotate_left
                     · intro w'
                       go_simp
                       with_reducible rfl
                     rotate_left
                     · simp only [Act.put, List.setIfInBounds_toArray, List.set_cons_zero, List.set_cons_succ, i64_w, i32_w]
                       rfl
                     refine pure_ (i := 12) (N := some 41) (v := ?_) (a' := ?_) #[true, true, true, true, false, true, false, false, false, false, false, true, true, false, false, false, false, false, false, false, false, false] rfl rfl (any_of HT_.out (by kernel_rfl)) (fun _ _ _ h => h) (Or.inl ⟨by rfl, ?_⟩) ?_ ?_
                     rotate_left
                     · intro w'
                       go_simp
                       with_reducible rfl
                     rotate_left
                     · simp only [Act.put, List.setIfInBounds_toArray, List.set_cons_zero, List.set_cons_succ, i64_w, i32_w]
                       rfl
                     refine pure_ (i := 13) (N := some 42) (v := ?_) (a' := ?_) #[true, true, true, true, false, true, false, false, false, false, false, true, true, true, false, false, false, false, false, false, false, false] rfl rfl (any_of HT_.out (by kernel_rfl)) (fun _ _ _ h => h) (Or.inl ⟨by rfl, ?_⟩) ?_ ?_
                     rotate_left
                     · intro w'
                       go_simp
                       with_reducible rfl
                     rotate_left
                     · simp only [Act.put, List.setIfInBounds_toArray, List.set_cons_zero, List.set_cons_succ, i64_w, i32_w]
                       rfl
                     refine pure_ (i := 15) (N := some 44) (v := ?_) (a' := ?_) #[true, true, true, true, false, true, false, false, false, false, false, true, true, true, false, true, false, false, false, false, false, false] rfl rfl (any_of HT_.out (by kernel_rfl)) (fun _ _ _ h => h) (Or.inl ⟨by rfl, ?_⟩) ?_ ?_
                     rotate_left
                     · intro w'
                       go_simp
                       with_reducible rfl
                     rotate_left
                     · simp only [Act.put, List.setIfInBounds_toArray, List.set_cons_zero, List.set_cons_succ, i64_w, i32_w]
                       rfl
                     refine take_ (i := 4) (N := some 33) (v := ?_) (a' := ?_) #[true, true, true, true, true, true, false, false, false, false, false, true, true, true, false, true, false, false, false, false, false, false] rfl rfl (take_ofW HT_.out HW_.out (by kernel_rfl)) (fun _ _ _ h => h) (Or.inl ⟨by rfl, ?_⟩) hHeld ?_ ?_
                     rotate_left
                     · rintro w' ⟨s0, s1, s2, s3, s4, s5, s6, s7, s8⟩
                       go_simp
                       with_reducible rfl
                     rotate_left
                     · simp only [Act.put, List.setIfInBounds_toArray, List.set_cons_zero, List.set_cons_succ, i64_w, i32_w]
                       rfl
                     refine pure_ (i := 6) (N := some 35) (v := ?_) (a' := ?_) #[true, true, true, true, true, true, true, false, false, false, false, true, true, true, false, true, false, false, false, false, false, false] rfl rfl (any_of HT_.out (by kernel_rfl)) (fun _ _ _ h => h) (Or.inl ⟨by rfl, ?_⟩) ?_ ?_
                     rotate_left
                     · intro w'
                       go_simp
                       with_reducible rfl
                     rotate_left
                     · simp only [Act.put, List.setIfInBounds_toArray, List.set_cons_zero, List.set_cons_succ, i64_w, i32_w]
                       rfl
                     refine pure_ (i := 7) (N := some 36) (v := ?_) (a' := ?_) #[true, true, true, true, true, true, true, true, false, false, false, true, true, true, false, true, false, false, false, false, false, false] rfl rfl (any_of HT_.out (by kernel_rfl)) (fun _ _ _ h => h) (Or.inl ⟨by rfl, ?_⟩) ?_ ?_
                     rotate_left
                     · intro w'
                       go_simp
                       with_reducible rfl
                     rotate_left
                     · simp only [Act.put, List.setIfInBounds_toArray, List.set_cons_zero, List.set_cons_succ, i64_w, i32_w]
                       rfl
                     refine take_ (i := 8) (N := some 37) (v := ?_) (a' := ?_) #[true, true, true, true, true, true, true, true, true, false, false, true, true, true, false, true, false, false, false, false, false, false] rfl rfl (take_ofW HT_.out HW_.out (by kernel_rfl)) (fun _ _ _ h => h) (Or.inl ⟨by rfl, ?_⟩) hHeld ?_ ?_
                     rotate_left
                     · rintro w' ⟨s0, s1, s2, s3, s4, s5, s6, s7, s8⟩
                       go_simp
                       with_reducible rfl
                     rotate_left
                     · simp only [Act.put, List.setIfInBounds_toArray, List.set_cons_zero, List.set_cons_succ, i64_w, i32_w]
                       rfl
                     refine take_ (i := 14) (N := some 43) (v := ?_) (a' := ?_) #[true, true, true, true, true, true, true, true, true, false, false, true, true, true, true, true, false, false, false, false, false, false] rfl rfl (take_ofW HT_.out HW_.out (by kernel_rfl)) (fun _ _ _ h => h) (Or.inl ⟨by rfl, ?_⟩) hHeld ?_ ?_
                     rotate_left
                     · rintro w' ⟨s0, s1, s2, s3, s4, s5, s6, s7, s8⟩
                       go_simp
                       with_reducible rfl
                     rotate_left
                     · simp only [Act.put, List.setIfInBounds_toArray, List.set_cons_zero, List.set_cons_succ, i64_w, i32_w]
                       rfl
                     refine pure_ (i := 16) (N := some 45) (v := ?_) (a' := ?_) #[true, true, true, true, true, true, true, true, true, false, false, true, true, true, true, true, true, false, false, false, false, false] rfl rfl (any_of HT_.out (by kernel_rfl)) (fun _ _ _ h => h) (Or.inl ⟨by rfl, ?_⟩) ?_ ?_
                     rotate_left
                     · intro w'
                       go_simp
                       with_reducible rfl
                     rotate_left
                     · simp only [Act.put, List.setIfInBounds_toArray, List.set_cons_zero, List.set_cons_succ, i64_w, i32_w]
                       rfl
                     refine pure_ (i := 17) (N := some 46) (v := ?_) (a' := ?_) #[true, true, true, true, true, true, true, true, true, false, false, true, true, true, true, true, true, true, false, false, false, false] rfl rfl (any_of HT_.out (by kernel_rfl)) (fun _ _ _ h => h) (Or.inl ⟨by rfl, ?_⟩) ?_ ?_
                     rotate_left
                     · intro w'
                       go_simp
                       with_reducible rfl
                     rotate_left
                     · simp only [Act.put, List.setIfInBounds_toArray, List.set_cons_zero, List.set_cons_succ, i64_w, i32_w]
                       rfl
                     refine take_ (i := 18) (N := some 47) (v := ?_) (a' := ?_) #[true, true, true, true, true, true, true, true, true, false, false, true, true, true, true, true, true, true, true, false, false, false] rfl rfl (take_ofW HT_.out HW_.out (by kernel_rfl)) (fun _ _ _ h => h) (Or.inl ⟨by rfl, ?_⟩) hHeld ?_ ?_
                     rotate_left
                     · rintro w' ⟨s0, s1, s2, s3, s4, s5, s6, s7, s8⟩
                       go_simp
                       with_reducible rfl
                     rotate_left
                     · simp only [Act.put, List.setIfInBounds_toArray, List.set_cons_zero, List.set_cons_succ, i64_w, i32_w]
                       rfl
                     refine one_ (i := 9) (N := some 38) #[true, true, true, true, true, true, true, true, true, true, false, true, true, true, true, true, true, true, true, false, false, false] rfl rfl (one_of HT_.out (by kernel_rfl)) (by decide) (fun K hK => ?_)
                     refine goes_ Try.func125 (by kernel_rfl) rfl #[.int .i64 ((rd_T34 ((rd_T27 l0 0).f1) x6_1).f0)] (by rfl) rfl rfl pA ?_
                     with_reducible refine (spec_l3Big.calls ((rd_T34 ((rd_T27 l0 0).f1) x6_1).f0) t510 _ A15.out).mono ?_
                     rintro e w34 ⟨v511, rfl, ho0, hb⟩
                     refine ⟨_, rfl, ?_⟩
                     have n_ := t3 (rE (pR HO_5) (rB ho0) hb) (rL (rW ho0 (Kd.R_lt (pR HO_5))) (bs_ pB)) (bz_ pB hb)
                     clear HO_5 HB; obtain ⟨HO_5, HO512, HB⟩ := n_; (try clear hb); (try clear hb2); (try clear hk); (try clear hi); (try clear ho0)
                     obtain ⟨Ao36, co36, eo36⟩ := rS HO512.out
                     (first | subst eo36 | (injection eo36 with f1_ f2_ f3_; have f4_ := f1_.symm; have f5_ := f3_.symm; clear f1_ f2_ f3_; subst f4_; subst f5_))
                     refine hK.out _ _ ⟨(cb HB hw508_0), (cb HB hw508_1), (cb HB hw508_2), (cb HB hw509_0), (cb HB hw509_1), (cb HB hw509_2), (cb HB hw516_0), (cb HB hw516_1), (cb HB hw516_2)⟩ (fun hHeld => ?_)
                     clear hK K
                     refine norm_ (a' := ?_) ?_ ?_
                     rotate_left
                     · show Act.put _ (some 38) _ = _
                       simp only [Act.put, List.setIfInBounds_toArray, List.set_cons_zero, List.set_cons_succ, i64_w, i32_w]
                       rfl
                     refine one_ (i := 10) (N := some 39) #[true, true, true, true, true, true, true, true, true, true, true, true, true, true, true, true, true, true, true, false, false, false] rfl rfl (one_of HT_.out (by kernel_rfl)) (by decide) (fun K hK => ?_)
                     refine Kd.R_append_rows_step (Kd.int .u8) (w0 := w) w.heap.size (by rfl) (.tmp 29) (.tmp 38) 22 5 (.int .u8 0) 1 rfl Try.underlying22 info5 rfl (by decide) (by omega) u5 x5_1 t510 _ _ _ (fun k_ => some k_ ≠ (.slice Ao36 t510.length co36 : Value).ownBlock) (fun _ => False) rfl rfl ?aO ?aR (fun _ _ h => h) (fun _ h => h.elim) ?aF ?aB ?aS ?aL ?_
                     (case aR => exact pC (rr HO512.out).2.2)
                     (case aB => exact pB)
                     (case aF => exact (fun k_ hk => Kd.fresh' (Kd.R_lt (pR HO512)) k_ hk))
                     (case aO => exact (pT (Kd.R_mono HO_5.out (fun _ hk => hk.2))))
                     (case aS => exact (bs_ pB))
                     (case aL => have := LMc16.out; omega)
                     intro v514 w35 ho hb hg hat
                     rw [← Ny513.out] at ho
                     have n_ := t3 (Kd.R_after (ok := (fun _ => True)) (pR HO512) hg hat) (hb) (ho)
                     clear HO512 HB HO_5; obtain ⟨HO512, HB, HO515⟩ := n_; clear ho hb hg hat
                     refine hK.out _ _ ⟨(cb HB hw508_0), (cb HB hw508_1), (cb HB hw508_2), (cb HB hw509_0), (cb HB hw509_1), (cb HB hw509_2), (cb HB hw516_0), (cb HB hw516_1), (cb HB hw516_2)⟩ (fun hHeld => ?_)
                     clear hK K
                     refine norm_ (a' := ?_) ?_ ?_
                     rotate_left
                     · show Act.put _ (some 39) _ = _
                       simp only [Act.put, List.setIfInBounds_toArray, List.set_cons_zero, List.set_cons_succ, i64_w, i32_w]
                       rfl
                     refine one_ (i := 19) (N := some 48) #[true, true, true, true, true, true, true, true, true, true, true, true, true, true, true, true, true, true, true, true, false, false] rfl rfl (one_of HT_.out (by kernel_rfl)) (by decide) (fun K hK => ?_)
                     refine goes_ Try.func80 (by kernel_rfl) rfl #[.int .i64 ((rd_T34 ((rd_T27 l0 0).f1) x6_1).f1)] (by rfl) rfl rfl pA ?_
                     with_reducible refine (spec_l3Put.calls ((rd_T34 ((rd_T27 l0 0).f1) x6_1).f1) t517 _ A17.out).mono ?_
                     rintro e w37 ⟨v518, rfl, ho0, hb⟩
                     refine ⟨_, rfl, ?_⟩
                     have n_ := t4 (rE (pR HO512) (rB ho0) hb) (rE (pR HO515) (rB ho0) hb) (rL (rW (rW ho0 (Kd.R_lt (pR HO512))) (Kd.R_lt (pR HO515))) (bs_ pB)) (bz_ pB hb)
                     clear HO512 HO515 HB; obtain ⟨HO512, HO515, HO519, HB⟩ := n_; (try clear hb); (try clear hb2); (try clear hk); (try clear hi); (try clear ho0)
                     obtain ⟨Ao39, co39, eo39⟩ := rS HO519.out
                     (first | subst eo39 | (injection eo39 with f1_ f2_ f3_; have f4_ := f1_.symm; have f5_ := f3_.symm; clear f1_ f2_ f3_; subst f4_; subst f5_))
                     refine hK.out _ _ ⟨(cb HB hw508_0), (cb HB hw508_1), (cb HB hw508_2), (cb HB hw509_0), (cb HB hw509_1), (cb HB hw509_2), (cb HB hw516_0), (cb HB hw516_1), (cb HB hw516_2)⟩ (fun hHeld => ?_)
                     clear hK K
                     refine norm_ (a' := ?_) ?_ ?_
                     rotate_left
                     · show Act.put _ (some 48) _ = _
                       simp only [Act.put, List.setIfInBounds_toArray, List.set_cons_zero, List.set_cons_succ, i64_w, i32_w]
                       rfl
                     refine one_ (i := 20) (N := some 49) #[true, true, true, true, true, true, true, true, true, true, true, true, true, true, true, true, true, true, true, true, true, false] rfl rfl (one_of HT_.out (by kernel_rfl)) (by decide) (fun K hK => ?_)
                     refine Kd.R_append_rows_step (Kd.int .u8) (w0 := w) w.heap.size (by rfl) (.tmp 39) (.tmp 48) 22 5 (.int .u8 0) 1 rfl Try.underlying22 info5 rfl (by decide) (by omega) v514 y513 t517 _ _ _ (fun k_ => some k_ ≠ (.slice Ao36 t510.length co36 : Value).ownBlock ∧ some k_ ≠ (.slice Ao39 t517.length co39 : Value).ownBlock) (fun _ => False) rfl rfl ?aO ?aR (fun _ _ h => h) (fun _ h => h.elim) ?aF ?aB ?aS ?aL ?_
                     (case aR => exact pC (rr HO519.out).2.2)
                     (case aB => exact pB)
                     (case aF => exact (fun k_ hk => ⟨Kd.fresh' (Kd.R_lt (pR HO512)) k_ hk, Kd.fresh' (Kd.R_lt (pR HO519)) k_ hk⟩))
                     (case aO => exact (pR HO515))
                     (case aS => exact (bs_ pB))
                     (case aL => have := LMc18.out; omega)
                     intro v521 w38 ho hb hg hat
                     rw [← Ny520.out] at ho
                     have n_ := t4 (Kd.R_after (ok := (fun k_ => some k_ ≠ (.slice Ao39 t517.length co39 : Value).ownBlock)) (pT (Kd.R_mono HO512.out (fun _ hk => ⟨hk.2, hk.1.2⟩))) hg hat) (Kd.R_after (ok := (fun k_ => some k_ ≠ (.slice Ao36 t510.length co36 : Value).ownBlock)) (pT (Kd.R_mono HO519.out (fun _ hk => ⟨hk.1.2, hk.2⟩))) hg hat) (hb) (ho)
                     clear HO512 HO519 HB HO515; obtain ⟨HO512, HO519, HB, HO522⟩ := n_; clear ho hb hg hat
                     refine hK.out _ _ ⟨(cb HB hw508_0), (cb HB hw508_1), (cb HB hw508_2), (cb HB hw509_0), (cb HB hw509_1), (cb HB hw509_2), (cb HB hw516_0), (cb HB hw516_1), (cb HB hw516_2)⟩ (fun hHeld => ?_)
                     clear hK K
                     refine norm_ (a' := ?_) ?_ ?_
                     rotate_left
                     · show Act.put _ (some 49) _ = _
                       simp only [Act.put, List.setIfInBounds_toArray, List.set_cons_zero, List.set_cons_succ, i64_w, i32_w]
                       rfl
                     refine pure_ (i := 21) (N := some 5) (v := ?_) (a' := ?_) #[true, true, true, true, true, true, true, true, true, true, true, true, true, true, true, true, true, true, true, true, true, true] rfl rfl (any_of HT_.out (by kernel_rfl)) (fun _ _ _ h => h) (Or.inl ⟨by rfl, ?_⟩) ?_ ?_
                     rotate_left
                     · intro w'
                       go_simp
                       with_reducible rfl
                     rotate_left
                     · simp only [Act.put, List.setIfInBounds_toArray, List.set_cons_zero, List.set_cons_succ, i64_w, i32_w]
                       rfl
                     refine done_ (done_of HT_.out (by kernel_rfl)) ?_
                     try go_wp2_with (first | ((with_reducible refine gB (b := .append) (xs := #[.tmp 62, .tmp 63]) rfl ?_); at_builtin; refine Kd.R_append (Kd.int .u8) (w0 := w) w.heap.size rfl (.tmp 62) (.tmp 63) 22 5 (.int .u8 0) 1 rfl Try.underlying22 info5 rfl (by decide) (by omega) v521 y520 0 [.int .u8 0] (fun k_ => some k_ ≠ (.slice Ao36 t510.length co36 : Value).ownBlock ∧ some k_ ≠ (.slice Ao39 t517.length co39 : Value).ownBlock) (fun _ => False) rfl rfl ?aP (fun _ hk => hk.elim) ?aF ?aO ?aB ?aS ?aL ?_; (case aP => exact rfl); (case aB => exact pB); (case aF => exact (fun k_ hk => ⟨Kd.fresh' (Kd.R_lt (pR HO512)) k_ hk, Kd.fresh' (Kd.R_lt (pR HO519)) k_ hk⟩)); (case aO => exact (pR HO522)); (case aS => exact (bs_ pB)); (case aL => have := LMc32.out; omega); intro v532 w40 ho hb hg hat; rw [← Ny531.out] at ho; have n_ := t4 (Kd.R_after (ok := (fun k_ => some k_ ≠ (.slice Ao39 t517.length co39 : Value).ownBlock)) (pR HO512) hg hat) (Kd.R_after (ok := (fun k_ => some k_ ≠ (.slice Ao36 t510.length co36 : Value).ownBlock)) (pR HO519) hg hat) (hb) (ho); clear HO512 HO519 HB HO522; obtain ⟨HO512, HO519, HB, HO533⟩ := n_; clear ho hb hg hat))
                     go_roundg k1
                     case measure => have := HK1.out; omega
                     case rel => exact ⟨(y531), (wrap64 (x6_1 + 1)), pF, H', ⟨by have := HK1.out; omega⟩, ⟨(pT (Kd.R_mono HO533.out (fun _ hk => trivial)))⟩, ⟨pB⟩⟩
                   · rw [if_neg c32] at H
                     exact absurd H (by simp)
               · rw [if_neg c18] at H
                 exact absurd H (by simp)
             · rw [if_neg c16] at H
               exact absurd H (by simp)
           · rw [if_neg c14] at H
             exact absurd H (by simp)
         · rw [if_neg c13] at H
           have c13b0 : decide (x6_1 < (((rd_T27 l0 0).f1).length : Int)) = false := decide_eq_false c13
           clear c13
           obtain ⟨t535, A410, H⟩ := bO H
           replace H : (if x5_1.length + t535.length < 140737488355328 then (spec_l3Pack_in.l1 k1 l0 (x5_1 ++ t535) 0) else (none)) = some r := H
           have A41 := am A410; clear A410
           by_cases c42 : x5_1.length + t535.length < 140737488355328
           · rw [if_pos c42] at H
             have LMc42 := am c42; clear c42
             obtain ⟨y538, hy538⟩ : ∃ y_ : List Int, y_ = (x5_1 ++ t535) := ⟨_, rfl⟩
             replace H : (spec_l3Pack_in.l1 k1 l0 y538 0) = some r := by first | (rw [hy538]; with_reducible exact H) | (have H2_ := (Option.bind_some _ _).symm.trans H; rw [hy538]; with_reducible exact H2_) | (have H2_ := (Option.bind_some _ _).symm.trans H; with_reducible exact H2_) | with_reducible exact H | (rw [hy538]; exact H) | exact H
             have Ny538 := am hy538; clear hy538
             have H' := am H
             clear H
             have p507 : 0 ≤ (0 : Int) := (by omega)
             have q507 : 0 < (l0.length : Int) := pD
             obtain ⟨ad507, A507_1, c507_1, A507_2, c507_2, e507, hx507_0, hx507_1, hx507_2, hl507_1, hi507_1, hl507_2, hi507_2⟩ := at_T27 HR0.out 0 p507 q507
             obtain rfl : ad497 = ad507 := (by injection e507)
             have qi507 : (0 < l0.length) = True := eq_true (by omega)
             (try rw [z0, zm, az] at hx507_0); (try rw [z0, zm, az] at hx507_1); (try rw [z0, zm, az] at hx507_2); replace hx507_0 := cb HB hx507_0; replace hx507_1 := cb HB hx507_1; replace hx507_2 := cb HB hx507_2; have HR507_1 := am hi507_1; have HC507_1 := am hl507_1; clear hi507_1 hl507_1; have HR507_2 := am hi507_2; have HC507_2 := am hl507_2; clear hi507_2 hl507_2; replace p507 := eq_true p507; replace q507 := eq_true q507
             have p534 : 0 ≤ (0 : Int) := (by omega)
             have q534 : 0 < (l0.length : Int) := pD
             obtain ⟨ad534, A534_1, c534_1, A534_2, c534_2, e534, hx534_0, hx534_1, hx534_2, hl534_1, hi534_1, hl534_2, hi534_2⟩ := at_T27 HR0.out 0 p534 q534
             obtain rfl : ad497 = ad534 := (by injection e534)
             have qi534 : (0 < l0.length) = True := eq_true (by omega)
             (try rw [z0, zm, az] at hx534_0); (try rw [z0, zm, az] at hx534_1); (try rw [z0, zm, az] at hx534_2); replace hx534_0 := cb HB hx534_0; replace hx534_1 := cb HB hx534_1; replace hx534_2 := cb HB hx534_2; have HR534_1 := am hi534_1; have HC534_1 := am hl534_1; clear hi534_1 hl534_1; have HR534_2 := am hi534_2; have HC534_2 := am hl534_2; clear hi534_2 hl534_2; replace p534 := eq_true p534; replace q534 := eq_true q534
             have ea_ := sj (hx507_1.symm.trans hx534_1)
             injection ea_ with ea_ en_ ec_
             subst ea_; subst ec_; clear en_
             have ea_ := sj (hx507_2.symm.trans hx534_2)
             injection ea_ with ea_ en_ ec_
             subst ea_; subst ec_; clear en_
             go_wp2_with (first | ((with_reducible refine gC (f := 80) rfl ?_); refine goesL_ (some 71) rfl rfl Try.func80 (by kernel_rfl) rfl #[.int .i64 (((rd_T27 l0 0).f2).length : Int)] rfl pA ?_; (with_reducible refine (spec_l3Put.calls (((rd_T27 l0 0).f2).length : Int) t535 _ A41.out).mono ?_); rintro e w43 ⟨v536, rfl, ho0, hb⟩; refine ⟨_, rfl, ?_⟩; have n_ := t3 (rE (pR HO_5) (rB ho0) hb) (rL (rW ho0 (Kd.R_lt (pR HO_5))) (bs_ pB)) (bz_ pB hb); clear HO_5 HB; obtain ⟨HO_5, HO537, HB⟩ := n_; (try clear hb); (try clear ho0); obtain ⟨Ao45, co45, eo45⟩ := rS HO537.out; subst eo45) | ((with_reducible refine gB (b := .append) (xs := #[.tmp 65, .tmp 71]) rfl ?_); at_builtin; refine Kd.R_append_rows (Kd.int .u8) (w0 := w) w.heap.size rfl (.tmp 65) (.tmp 71) 22 5 (.int .u8 0) 1 rfl Try.underlying22 info5 rfl (by decide) (by omega) u5 x5_1 t535 _ _ _ (fun k_ => some k_ ≠ (.slice Ao45 t535.length co45 : Value).ownBlock) (fun _ => False) rfl rfl ?aO ?aR (fun _ _ h => h) (fun _ h => h.elim) ?aF ?aB ?aS ?aL ?_; (case aR => exact pC (rr HO537.out).2.2); (case aB => exact pB); (case aF => exact (fun k_ hk => Kd.fresh' (Kd.R_lt (pR HO537)) k_ hk)); (case aO => exact (pT (Kd.R_mono HO_5.out (fun _ hk => hk.2)))); (case aS => exact (bs_ pB)); (case aL => have := LMc42.out; omega); intro v539 w44 ho hb hg hat; rw [← Ny538.out] at ho; have n_ := t3 (Kd.R_after (ok := (fun _ => True)) (pR HO537) hg hat) (hb) (ho); clear HO537 HB HO_5; obtain ⟨HO537, HB, HO540⟩ := n_; clear ho hb hg hat))
             go_loopg [5, 7] k1 (fun kq v5 v7 w' => ∃ (x5_2 : List Int) (x7_2 : Int), v7 = .int .i64 x7_2 ∧ Aside0 (spec_l3Pack_in.l1 kq l0 x5_2 x7_2 = some r) ∧ Aside0 (kq ≤ k1) ∧ Aside0 (Kd.R (Kd.int .u8) 5 w' w.heap.size (fun _ => True) v5 x5_2) ∧ Aside0 (Below w.heap.size w w'))
             case atStart => exact ⟨(y538), (0), pF, H', ⟨Nat.le_refl _⟩, ⟨(pT (Kd.R_mono HO540.out (fun _ hk => trivial)))⟩, ⟨pB⟩⟩
             case round =>
              clear H'
              (try clear c3); (try clear c12); (try clear c13); (try clear c13b0); (try clear c42); (try clear hx507_0); (try clear hx507_1); (try clear hx507_2); (try clear hx534_0); (try clear hx534_1); (try clear hx534_2); (try clear p507); (try clear p534); (try clear q507); (try clear q534)
              obtain ⟨x5_2, x7_2, rfl, HA, HK2, HO_5, HB⟩ := hrel
              cases gk with
              | zero => exact absurd HA.out (by simp [spec_l3Pack_in.l1])
              | succ k2 =>
               have H := HA.out
               clear HA
               simp only [spec_l3Pack_in.l1] at H
               by_cases c46 : 0 < (l0.length : Int)
               · rw [if_pos c46] at H
                 have c46b0 : decide (0 < (l0.length : Int)) = true := dt c46
                 have c46b1 : decide (0 < l0.length) = true := dt (by omega)
                 clear c46
                 by_cases c47 : x7_2 < (((rd_T27 l0 0).f2).length : Int)
                 · rw [if_pos c47] at H
                   have c47b0 : decide (x7_2 < (((rd_T27 l0 0).f2).length : Int)) = true := dt c47
                   clear c47
                   by_cases c48 : 0 ≤ x7_2
                   · rw [if_pos c48] at H
                     have c48b0 : decide (0 ≤ x7_2) = true := dt c48
                     clear c48
                     obtain ⟨t544, A490, H⟩ := bO H
                     replace H : (if x5_2.length + t544.length < 140737488355328 then ((some (x5_2 ++ t544 : List Int)).bind fun y547 => ((spec_l3List.f k2 ((rd_T86 ((rd_T27 l0 0).f2) x7_2).f1)).bind fun t551 => (if y547.length + t551.length < 140737488355328 then (spec_l3Pack_in.l1 k2 l0 (y547 ++ t551) (wrap64 (x7_2 + 1))) else (none)))) else (none)) = some r := H
                     have A49 := am A490; clear A490
                     by_cases c50 : x5_2.length + t544.length < 140737488355328
                     · rw [if_pos c50] at H
                       have LMc50 := am c50; clear c50
                       obtain ⟨y547, hy547⟩ : ∃ y_ : List Int, y_ = (x5_2 ++ t544) := ⟨_, rfl⟩
                       replace H : ((spec_l3List.f k2 ((rd_T86 ((rd_T27 l0 0).f2) x7_2).f1)).bind fun t551 => (if y547.length + t551.length < 140737488355328 then (spec_l3Pack_in.l1 k2 l0 (y547 ++ t551) (wrap64 (x7_2 + 1))) else (none))) = some r := by first | (rw [hy547]; with_reducible exact H) | (have H2_ := (Option.bind_some _ _).symm.trans H; rw [hy547]; with_reducible exact H2_) | (have H2_ := (Option.bind_some _ _).symm.trans H; with_reducible exact H2_) | with_reducible exact H | (rw [hy547]; exact H) | exact H
                       have Ny547 := am hy547; clear hy547
                       obtain ⟨t551, A510, H⟩ := bO H
                       replace H : (if y547.length + t551.length < 140737488355328 then (spec_l3Pack_in.l1 k2 l0 (y547 ++ t551) (wrap64 (x7_2 + 1))) else (none)) = some r := H
                       have A51 := am A510; clear A510
                       by_cases c52 : y547.length + t551.length < 140737488355328
                       · rw [if_pos c52] at H
                         have LMc52 := am c52; clear c52
                         obtain ⟨y554, hy554⟩ : ∃ y_ : List Int, y_ = (y547 ++ t551) := ⟨_, rfl⟩
                         replace H : (spec_l3Pack_in.l1 k2 l0 y554 (wrap64 (x7_2 + 1))) = some r := by first | (rw [hy554]; with_reducible exact H) | (have H2_ := (Option.bind_some _ _).symm.trans H; rw [hy554]; with_reducible exact H2_) | (have H2_ := (Option.bind_some _ _).symm.trans H; with_reducible exact H2_) | with_reducible exact H | (rw [hy554]; exact H) | exact H
                         have Ny554 := am hy554; clear hy554
                         have H' := am H
                         clear H
                         have p541 : 0 ≤ (0 : Int) := (by omega)
                         have q541 : 0 < (l0.length : Int) := pD
                         (try clear hx534_0); (try clear hx534_1); (try clear hx534_2); (try clear hHeld)
                         obtain ⟨ad541, A541_1, c541_1, A541_2, c541_2, e541, hx541_0, hx541_1, hx541_2, hl541_1, hi541_1, hl541_2, hi541_2⟩ := at_T27 HR0.out 0 p541 q541
                         obtain rfl : ad497 = ad541 := (by injection e541)
                         have qi541 : (0 < l0.length) = True := eq_true (by omega)
                         (try rw [z0, zm, az] at hx541_0); (try rw [z0, zm, az] at hx541_1); (try rw [z0, zm, az] at hx541_2); replace hx541_0 := cb HB hx541_0; replace hx541_1 := cb HB hx541_1; replace hx541_2 := cb HB hx541_2; have HR541_1 := am hi541_1; have HC541_1 := am hl541_1; clear hi541_1 hl541_1; have HR541_2 := am hi541_2; have HC541_2 := am hl541_2; clear hi541_2 hl541_2; replace p541 := eq_true p541; replace q541 := eq_true q541
                         try go_wp2
                         have n_ := t2 (Kd.R_drew HO_5.out) (below_drew1 HB.out)
                         clear HO_5 HB; obtain ⟨HO_5, HB⟩ := n_
                         have p542 : 0 ≤ (0 : Int) := (by omega)
                         have q542 : 0 < (l0.length : Int) := pD
                         (try clear hx541_0); (try clear hx541_1); (try clear hx541_2); (try clear hHeld)
                         obtain ⟨ad542, A542_1, c542_1, A542_2, c542_2, e542, hx542_0, hx542_1, hx542_2, hl542_1, hi542_1, hl542_2, hi542_2⟩ := at_T27 HR0.out 0 p542 q542
                         have hw542_2 := hx542_2
                         (try rw [z0, zm, az] at hw542_2)
                         have hw542_1 := hx542_1
                         (try rw [z0, zm, az] at hw542_1)
                         have hw542_0 := hx542_0
                         (try rw [z0, zm, az] at hw542_0)
                         obtain rfl : ad497 = ad542 := (by injection e542)
                         have qi542 : (0 < l0.length) = True := eq_true (by omega)
                         (try rw [z0, zm, az] at hx542_0); (try rw [z0, zm, az] at hx542_1); (try rw [z0, zm, az] at hx542_2); replace hx542_0 := cb HB hx542_0; replace hx542_1 := cb HB hx542_1; replace hx542_2 := cb HB hx542_2; have HR542_1 := am hi542_1; have HC542_1 := am hl542_1; clear hi542_1 hl542_1; have HR542_2 := am hi542_2; have HC542_2 := am hl542_2; clear hi542_2 hl542_2; replace p542 := eq_true p542; replace q542 := eq_true q542
                         have p543 : 0 ≤ (x7_2 : Int) := pD
                         have q543 : x7_2 < (((rd_T27 l0 0).f2).length : Int) := pD
                         obtain ⟨ad543, A543_1, c543_1, e543, hx543_0, hx543_1, hl543_1, hi543_1⟩ := at_T86 HR542_2.out x7_2 p543 q543
                         have hw543_1 := hx543_1
                         have hw543_0 := hx543_0
                         cases e543; replace hx543_0 := cb HB hx543_0; replace hx543_1 := cb HB hx543_1; have HR543_1 := am hi543_1; have HC543_1 := am hl543_1; clear hi543_1 hl543_1; replace p543 := eq_true p543; replace q543 := eq_true q543
                         have p550 : 0 ≤ (x7_2 : Int) := pD
                         have q550 : x7_2 < (((rd_T27 l0 0).f2).length : Int) := pD
                         obtain ⟨ad550, A550_1, c550_1, e550, hx550_0, hx550_1, hl550_1, hi550_1⟩ := at_T86 HR542_2.out x7_2 p550 q550
                         have hw550_1 := hx550_1
                         have hw550_0 := hx550_0
                         obtain rfl : ad543 = ad550 := (by injection e550)
                         replace hx550_0 := cb HB hx550_0; replace hx550_1 := cb HB hx550_1; have HR550_1 := am hi550_1; have HC550_1 := am hl550_1; clear hi550_1 hl550_1; replace p550 := eq_true p550; replace q550 := eq_true q550
                         have ea_ := sj (hx543_1.symm.trans hx550_1)
                         injection ea_ with ea_ en_ ec_
                         subst ea_; subst ec_; clear en_
                         refine start_ (n := 22) (S := fun w' => w'.cell? ad497 = some (.int .i64 ((rd_T27 l0 0).f0)) ∧ w'.cell? ⟨ad497.block, ad497.off + 1, none⟩ = some (.slice A542_1 ((rd_T27 l0 0).f1).length c542_1) ∧ w'.cell? ⟨ad497.block, ad497.off + 2, none⟩ = some (.slice (some ad543) ((rd_T27 l0 0).f2).length c542_2) ∧ w'.cell? (ad543.add ((x7_2).toNat * 2)) = some (.int .i64 ((rd_T86 ((rd_T27 l0 0).f2) x7_2).f0)) ∧ w'.cell? ⟨(ad543.add ((x7_2).toNat * 2)).block, (ad543.add ((x7_2).toNat * 2)).off + 1, none⟩ = some (.slice A543_1 ((rd_T86 ((rd_T27 l0 0).f2) x7_2).f1).length c543_1) ∧ w'.cell? (ad543.add ((x7_2).toNat * 2)) = some (.int .i64 ((rd_T86 ((rd_T27 l0 0).f2) x7_2).f0)) ∧ w'.cell? ⟨(ad543.add ((x7_2).toNat * 2)).block, (ad543.add ((x7_2).toNat * 2)).off + 1, none⟩ = some (.slice A543_1 ((rd_T86 ((rd_T27 l0 0).f2) x7_2).f1).length c543_1)) (ds := []) #[false, false, false, false, false, false, false, false, false, false, false, false, false, false, false, false, false, false, false, false, false, false] (by kernel_rfl) rfl rfl ⟨(cb HB hw542_0), (cb HB hw542_1), (cb HB hw542_2), (cb HB hw543_0), (cb HB hw543_1), (cb HB hw550_0), (cb HB hw550_1)⟩ (fun hHeld => ?_); refine with_tabW spec_l3Pack_in.tab13 spec_l3Pack_in.bits13 (fun HT_ HW_ => ?_)
                         generalize wr.drew = w53 at HO_5 HB HR542_1 HR542_2 HR543_1 HR550_1 hx542_0 hx542_1 hx542_2 hx543_0 hx543_1 hx550_0 hx550_1 hHeld ⊢
                         refine pure_ (i := 0) (N := some 82) (v := ?_) (a' := ?_) #[true, false, false, false, false, false, false, false, false, false, false, false, false, false, false, false, false, false, false, false, false, false] rfl rfl (any_of HT_.out (by kernel_rfl)) (fun _ _ _ h => h) (Or.inl ⟨by rfl, ?_⟩) ?_ ?_
                         rotate_left
                         · intro w'
                           go_simp
                           with_reducible rfl
                         rotate_left
                         · simp only [Act.put, List.setIfInBounds_toArray, List.set_cons_zero, List.set_cons_succ, i64_w, i32_w]
                           rfl
                         refine pure_ (i := 1) (N := some 83) (v := ?_) (a' := ?_) #[true, true, false, false, false, false, false, false, false, false, false, false, false, false, false, false, false, false, false, false, false, false] rfl rfl (any_of HT_.out (by kernel_rfl)) (fun _ _ _ h => h) (Or.inl ⟨by rfl, ?_⟩) ?_ ?_
                         rotate_left
                         · intro w'
                           go_simp
                           with_reducible rfl
                         rotate_left
                         · simp only [Act.put, List.setIfInBounds_toArray, List.set_cons_zero, List.set_cons_succ, i64_w, i32_w]
                           rfl
                         refine pure_ (i := 2) (N := some 84) (v := ?_) (a' := ?_) #[true, true, true, false, false, false, false, false, false, false, false, false, false, false, false, false, false, false, false, false, false, false] rfl rfl (any_of HT_.out (by kernel_rfl)) (fun _ _ _ h => h) (Or.inl ⟨by rfl, ?_⟩) ?_ ?_
                         rotate_left
                         · intro w'
                           go_simp
                           with_reducible rfl
                         rotate_left
                         · simp only [Act.put, List.setIfInBounds_toArray, List.set_cons_zero, List.set_cons_succ, i64_w, i32_w]
                           rfl
                         refine pure_ (i := 3) (N := some 85) (v := ?_) (a' := ?_) #[true, true, true, true, false, false, false, false, false, false, false, false, false, false, false, false, false, false, false, false, false, false] rfl rfl (any_of HT_.out (by kernel_rfl)) (fun _ _ _ h => h) (Or.inl ⟨by rfl, ?_⟩) ?_ ?_
                         rotate_left
                         · intro w'
                           go_simp
                           with_reducible rfl
                         rotate_left
                         · simp only [Act.put, List.setIfInBounds_toArray, List.set_cons_zero, List.set_cons_succ, i64_w, i32_w]
                           rfl
                         refine pure_ (i := 5) (N := some 87) (v := ?_) (a' := ?_) #[true, true, true, true, false, true, false, false, false, false, false, false, false, false, false, false, false, false, false, false, false, false] rfl rfl (any_of HT_.out (by kernel_rfl)) (fun _ _ _ h => h) (Or.inl ⟨by rfl, ?_⟩) ?_ ?_
                         rotate_left
                         · intro w'
                           go_simp
                           with_reducible rfl
                         rotate_left
                         · simp only [Act.put, List.setIfInBounds_toArray, List.set_cons_zero, List.set_cons_succ, i64_w, i32_w]
                           rfl
                         refine pure_ (i := 11) (N := some 93) (v := ?_) (a' := ?_) #[true, true, true, true, false, true, false, false, false, false, false, true, false, false, false, false, false, false, false, false, false, false] rfl rfl (any_of HT_.out (by kernel_rfl)) (fun _ _ _ h => h) (Or.inl ⟨by rfl, ?_⟩) ?_ ?_
                         rotate_left
                         · intro w'
                           go_simp
                           with_reducible rfl
                         rotate_left
                         · simp only [Act.put, List.setIfInBounds_toArray, List.set_cons_zero, List.set_cons_succ, i64_w, i32_w]
                           rfl
                         refine pure_ (i := 12) (N := some 94) (v := ?_) (a' := ?_) #[true, true, true, true, false, true, false, false, false, false, false, true, true, false, false, false, false, false, false, false, false, false] rfl rfl (any_of HT_.out (by kernel_rfl)) (fun _ _ _ h => h) (Or.inl ⟨by rfl, ?_⟩) ?_ ?_
                         rotate_left
                         · intro w'
                           go_simp
                           with_reducible rfl
                         rotate_left
                         · simp only [Act.put, List.setIfInBounds_toArray, List.set_cons_zero, List.set_cons_succ, i64_w, i32_w]
                           rfl
                         refine pure_ (i := 13) (N := some 95) (v := ?_) (a' := ?_) #[true, true, true, true, false, true, false, false, false, false, false, true, true, true, false, false, false, false, false, false, false, false] rfl rfl (any_of HT_.out (by kernel_rfl)) (fun _ _ _ h => h) (Or.inl ⟨by rfl, ?_⟩) ?_ ?_
                         rotate_left
                         · intro w'
                           go_simp
                           with_reducible rfl
                         rotate_left
                         · simp only [Act.put, List.setIfInBounds_toArray, List.set_cons_zero, List.set_cons_succ, i64_w, i32_w]
                           rfl
                         refine pure_ (i := 15) (N := some 97) (v := ?_) (a' := ?_) #[true, true, true, true, false, true, false, false, false, false, false, true, true, true, false, true, false, false, false, false, false, false] rfl rfl (any_of HT_.out (by kernel_rfl)) (fun _ _ _ h => h) (Or.inl ⟨by rfl, ?_⟩) ?_ ?_
                         rotate_left
                         · intro w'
                           go_simp
                           with_reducible rfl
                         rotate_left
                         · simp only [Act.put, List.setIfInBounds_toArray, List.set_cons_zero, List.set_cons_succ, i64_w, i32_w]
                           rfl
                         refine take_ (i := 4) (N := some 86) (v := ?_) (a' := ?_) #[true, true, true, true, true, true, false, false, false, false, false, true, true, true, false, true, false, false, false, false, false, false] rfl rfl (take_ofW HT_.out HW_.out (by kernel_rfl)) (fun _ _ _ h => h) (Or.inl ⟨by rfl, ?_⟩) hHeld ?_ ?_
                         rotate_left
                         · rintro w' ⟨s0, s1, s2, s3, s4, s5, s6⟩
                           go_simp
                           with_reducible rfl
                         rotate_left
                         · simp only [Act.put, List.setIfInBounds_toArray, List.set_cons_zero, List.set_cons_succ, i64_w, i32_w]
                           rfl
                         refine pure_ (i := 6) (N := some 88) (v := ?_) (a' := ?_) #[true, true, true, true, true, true, true, false, false, false, false, true, true, true, false, true, false, false, false, false, false, false] rfl rfl (any_of HT_.out (by kernel_rfl)) (fun _ _ _ h => h) (Or.inl ⟨by rfl, ?_⟩) ?_ ?_
                         rotate_left
                         · intro w'
                           go_simp
                           with_reducible rfl
                         rotate_left
                         · simp only [Act.put, List.setIfInBounds_toArray, List.set_cons_zero, List.set_cons_succ, i64_w, i32_w]
                           rfl
                         refine pure_ (i := 7) (N := some 89) (v := ?_) (a' := ?_) #[true, true, true, true, true, true, true, true, false, false, false, true, true, true, false, true, false, false, false, false, false, false] rfl rfl (any_of HT_.out (by kernel_rfl)) (fun _ _ _ h => h) (Or.inl ⟨by rfl, ?_⟩) ?_ ?_
                         rotate_left
                         · intro w'
                           go_simp
                           with_reducible rfl
                         rotate_left
                         · simp only [Act.put, List.setIfInBounds_toArray, List.set_cons_zero, List.set_cons_succ, i64_w, i32_w]
                           rfl
                         refine take_ (i := 8) (N := some 90) (v := ?_) (a' := ?_) #[true, true, true, true, true, true, true, true, true, false, false, true, true, true, false, true, false, false, false, false, false, false] rfl rfl (take_ofW HT_.out HW_.out (by kernel_rfl)) (fun _ _ _ h => h) (Or.inl ⟨by rfl, ?_⟩) hHeld ?_ ?_
                         rotate_left
                         · rintro w' ⟨s0, s1, s2, s3, s4, s5, s6⟩
                           go_simp
                           with_reducible rfl
                         rotate_left
                         · simp only [Act.put, List.setIfInBounds_toArray, List.set_cons_zero, List.set_cons_succ, i64_w, i32_w]
                           rfl
                         refine take_ (i := 14) (N := some 96) (v := ?_) (a' := ?_) #[true, true, true, true, true, true, true, true, true, false, false, true, true, true, true, true, false, false, false, false, false, false] rfl rfl (take_ofW HT_.out HW_.out (by kernel_rfl)) (fun _ _ _ h => h) (Or.inl ⟨by rfl, ?_⟩) hHeld ?_ ?_
                         rotate_left
                         · rintro w' ⟨s0, s1, s2, s3, s4, s5, s6⟩
                           go_simp
                           with_reducible rfl
                         rotate_left
                         · simp only [Act.put, List.setIfInBounds_toArray, List.set_cons_zero, List.set_cons_succ, i64_w, i32_w]
                           rfl
                         refine pure_ (i := 16) (N := some 98) (v := ?_) (a' := ?_) #[true, true, true, true, true, true, true, true, true, false, false, true, true, true, true, true, true, false, false, false, false, false] rfl rfl (any_of HT_.out (by kernel_rfl)) (fun _ _ _ h => h) (Or.inl ⟨by rfl, ?_⟩) ?_ ?_
                         rotate_left
                         · intro w'
                           go_simp
                           with_reducible rfl
                         rotate_left
                         · simp only [Act.put, List.setIfInBounds_toArray, List.set_cons_zero, List.set_cons_succ, i64_w, i32_w]
                           rfl
                         refine pure_ (i := 17) (N := some 99) (v := ?_) (a' := ?_) #[true, true, true, true, true, true, true, true, true, false, false, true, true, true, true, true, true, true, false, false, false, false] rfl rfl (any_of HT_.out (by kernel_rfl)) (fun _ _ _ h => h) (Or.inl ⟨by rfl, ?_⟩) ?_ ?_
                         rotate_left
                         · intro w'
                           go_simp
                           with_reducible rfl
                         rotate_left
                         · simp only [Act.put, List.setIfInBounds_toArray, List.set_cons_zero, List.set_cons_succ, i64_w, i32_w]
                           rfl
                         refine take_ (i := 18) (N := some 100) (v := ?_) (a' := ?_) #[true, true, true, true, true, true, true, true, true, false, false, true, true, true, true, true, true, true, true, false, false, false] rfl rfl (take_ofW HT_.out HW_.out (by kernel_rfl)) (fun _ _ _ h => h) (Or.inl ⟨by rfl, ?_⟩) hHeld ?_ ?_
                         rotate_left
                         · rintro w' ⟨s0, s1, s2, s3, s4, s5, s6⟩
                           go_simp
                           with_reducible rfl
                         rotate_left
                         · simp only [Act.put, List.setIfInBounds_toArray, List.set_cons_zero, List.set_cons_succ, i64_w, i32_w]
                           rfl
                         refine one_ (i := 9) (N := some 91) #[true, true, true, true, true, true, true, true, true, true, false, true, true, true, true, true, true, true, true, false, false, false] rfl rfl (one_of HT_.out (by kernel_rfl)) (by decide) (fun K hK => ?_)
                         refine goes_ Try.func125 (by kernel_rfl) rfl #[.int .i64 ((rd_T86 ((rd_T27 l0 0).f2) x7_2).f0)] (by rfl) rfl rfl pA ?_
                         with_reducible refine (spec_l3Big.calls ((rd_T86 ((rd_T27 l0 0).f2) x7_2).f0) t544 _ A49.out).mono ?_
                         rintro e w54 ⟨v545, rfl, ho0, hb⟩
                         refine ⟨_, rfl, ?_⟩
                         have n_ := t3 (rE (pR HO_5) (rB ho0) hb) (rL (rW ho0 (Kd.R_lt (pR HO_5))) (bs_ pB)) (bz_ pB hb)
                         clear HO_5 HB; obtain ⟨HO_5, HO546, HB⟩ := n_; (try clear hb); (try clear hb2); (try clear hk); (try clear hi); (try clear ho0)
                         obtain ⟨Ao56, co56, eo56⟩ := rS HO546.out
                         (first | subst eo56 | (injection eo56 with f1_ f2_ f3_; have f4_ := f1_.symm; have f5_ := f3_.symm; clear f1_ f2_ f3_; subst f4_; subst f5_))
                         refine hK.out _ _ ⟨(cb HB hw542_0), (cb HB hw542_1), (cb HB hw542_2), (cb HB hw543_0), (cb HB hw543_1), (cb HB hw550_0), (cb HB hw550_1)⟩ (fun hHeld => ?_)
                         clear hK K
                         refine norm_ (a' := ?_) ?_ ?_
                         rotate_left
                         · show Act.put _ (some 91) _ = _
                           simp only [Act.put, List.setIfInBounds_toArray, List.set_cons_zero, List.set_cons_succ, i64_w, i32_w]
                           rfl
                         refine one_ (i := 10) (N := some 92) #[true, true, true, true, true, true, true, true, true, true, true, true, true, true, true, true, true, true, true, false, false, false] rfl rfl (one_of HT_.out (by kernel_rfl)) (by decide) (fun K hK => ?_)
                         refine Kd.R_append_rows_step (Kd.int .u8) (w0 := w) w.heap.size (by rfl) (.tmp 82) (.tmp 91) 22 5 (.int .u8 0) 1 rfl Try.underlying22 info5 rfl (by decide) (by omega) u5 x5_2 t544 _ _ _ (fun k_ => some k_ ≠ (.slice Ao56 t544.length co56 : Value).ownBlock) (fun _ => False) rfl rfl ?aO ?aR (fun _ _ h => h) (fun _ h => h.elim) ?aF ?aB ?aS ?aL ?_
                         (case aR => exact pC (rr HO546.out).2.2)
                         (case aB => exact pB)
                         (case aF => exact (fun k_ hk => Kd.fresh' (Kd.R_lt (pR HO546)) k_ hk))
                         (case aO => exact (pT (Kd.R_mono HO_5.out (fun _ hk => hk.2))))
                         (case aS => exact (bs_ pB))
                         (case aL => have := LMc50.out; omega)
                         intro v548 w55 ho hb hg hat
                         rw [← Ny547.out] at ho
                         have n_ := t3 (Kd.R_after (ok := (fun _ => True)) (pR HO546) hg hat) (hb) (ho)
                         clear HO546 HB HO_5; obtain ⟨HO546, HB, HO549⟩ := n_; clear ho hb hg hat
                         refine hK.out _ _ ⟨(cb HB hw542_0), (cb HB hw542_1), (cb HB hw542_2), (cb HB hw543_0), (cb HB hw543_1), (cb HB hw550_0), (cb HB hw550_1)⟩ (fun hHeld => ?_)
                         clear hK K
                         refine norm_ (a' := ?_) ?_ ?_
                         rotate_left
                         · show Act.put _ (some 92) _ = _
                           simp only [Act.put, List.setIfInBounds_toArray, List.set_cons_zero, List.set_cons_succ, i64_w, i32_w]
                           rfl
                         refine one_ (i := 19) (N := some 101) #[true, true, true, true, true, true, true, true, true, true, true, true, true, true, true, true, true, true, true, true, false, false] rfl rfl (one_of HT_.out (by kernel_rfl)) (by decide) (fun K hK => ?_)
                         refine goes_ Try.func126 (by kernel_rfl) rfl #[.slice A543_1 ((rd_T86 ((rd_T27 l0 0).f2) x7_2).f1).length c543_1] (by rfl) rfl rfl pA ?_
                         with_reducible refine (spec_l3List.calls k2 _ _ ((rd_T86 ((rd_T27 l0 0).f2) x7_2).f1) t551 _ ?side1 ?side2 A51.out).mono ?_
                         (case side1 => exact pC (Kd.C_below HR550_1.out HB.out))
                         (case side2 => exact HC550_1.out)
                         rintro e w57 ⟨v552, rfl, ho0, hb⟩
                         refine ⟨_, rfl, ?_⟩
                         have n_ := t4 (rE (pR HO546) (rB ho0) hb) (rE (pR HO549) (rB ho0) hb) (rL (rW (rW ho0 (Kd.R_lt (pR HO546))) (Kd.R_lt (pR HO549))) (bs_ pB)) (bz_ pB hb)
                         clear HO546 HO549 HB; obtain ⟨HO546, HO549, HO553, HB⟩ := n_; (try clear hb); (try clear hb2); (try clear hk); (try clear hi); (try clear ho0)
                         obtain ⟨Ao59, co59, eo59⟩ := rS HO553.out
                         (first | subst eo59 | (injection eo59 with f1_ f2_ f3_; have f4_ := f1_.symm; have f5_ := f3_.symm; clear f1_ f2_ f3_; subst f4_; subst f5_))
                         refine hK.out _ _ ⟨(cb HB hw542_0), (cb HB hw542_1), (cb HB hw542_2), (cb HB hw543_0), (cb HB hw543_1), (cb HB hw550_0), (cb HB hw550_1)⟩ (fun hHeld => ?_)
                         clear hK K
                         refine norm_ (a' := ?_) ?_ ?_
                         rotate_left
                         · show Act.put _ (some 101) _ = _
                           simp only [Act.put, List.setIfInBounds_toArray, List.set_cons_zero, List.set_cons_succ, i64_w, i32_w]
                           rfl
                         refine one_ (i := 20) (N := some 102) #[true, true, true, true, true, true, true, true, true, true, true, true, true, true, true, true, true, true, true, true, true, false] rfl rfl (one_of HT_.out (by kernel_rfl)) (by decide) (fun K hK => ?_)
                         refine Kd.R_append_rows_step (Kd.int .u8) (w0 := w) w.heap.size (by rfl) (.tmp 92) (.tmp 101) 22 5 (.int .u8 0) 1 rfl Try.underlying22 info5 rfl (by decide) (by omega) v548 y547 t551 _ _ _ (fun k_ => some k_ ≠ (.slice Ao56 t544.length co56 : Value).ownBlock ∧ some k_ ≠ (.slice Ao59 t551.length co59 : Value).ownBlock) (fun _ => False) rfl rfl ?aO ?aR (fun _ _ h => h) (fun _ h => h.elim) ?aF ?aB ?aS ?aL ?_
                         (case aR => exact pC (rr HO553.out).2.2)
                         (case aB => exact pB)
                         (case aF => exact (fun k_ hk => ⟨Kd.fresh' (Kd.R_lt (pR HO546)) k_ hk, Kd.fresh' (Kd.R_lt (pR HO553)) k_ hk⟩))
                         (case aO => exact (pR HO549))
                         (case aS => exact (bs_ pB))
                         (case aL => have := LMc52.out; omega)
                         intro v555 w58 ho hb hg hat
                         rw [← Ny554.out] at ho
                         have n_ := t4 (Kd.R_after (ok := (fun k_ => some k_ ≠ (.slice Ao59 t551.length co59 : Value).ownBlock)) (pT (Kd.R_mono HO546.out (fun _ hk => ⟨hk.2, hk.1.2⟩))) hg hat) (Kd.R_after (ok := (fun k_ => some k_ ≠ (.slice Ao56 t544.length co56 : Value).ownBlock)) (pT (Kd.R_mono HO553.out (fun _ hk => ⟨hk.1.2, hk.2⟩))) hg hat) (hb) (ho)
                         clear HO546 HO553 HB HO549; obtain ⟨HO546, HO553, HB, HO556⟩ := n_; clear ho hb hg hat
                         refine hK.out _ _ ⟨(cb HB hw542_0), (cb HB hw542_1), (cb HB hw542_2), (cb HB hw543_0), (cb HB hw543_1), (cb HB hw550_0), (cb HB hw550_1)⟩ (fun hHeld => ?_)
                         clear hK K
                         refine norm_ (a' := ?_) ?_ ?_
                         rotate_left
                         · show Act.put _ (some 102) _ = _
                           simp only [Act.put, List.setIfInBounds_toArray, List.set_cons_zero, List.set_cons_succ, i64_w, i32_w]
                           rfl
                         refine pure_ (i := 21) (N := some 5) (v := ?_) (a' := ?_) #[true, true, true, true, true, true, true, true, true, true, true, true, true, true, true, true, true, true, true, true, true, true] rfl rfl (any_of HT_.out (by kernel_rfl)) (fun _ _ _ h => h) (Or.inl ⟨by rfl, ?_⟩) ?_ ?_
                         rotate_left
                         · intro w'
                           go_simp
                           with_reducible rfl
                         rotate_left
                         · simp only [Act.put, List.setIfInBounds_toArray, List.set_cons_zero, List.set_cons_succ, i64_w, i32_w]
                           rfl
                         refine done_ (done_of HT_.out (by kernel_rfl)) ?_
                         try go_wp2
                         go_roundg k2
                         case measure => have := HK1.out; have := HK2.out; omega
                         case rel => exact ⟨(y554), (wrap64 (x7_2 + 1)), pF, H', ⟨by have := HK1.out; have := HK2.out; omega⟩, ⟨(pT (Kd.R_mono HO556.out (fun _ hk => trivial)))⟩, ⟨pB⟩⟩
                       · rw [if_neg c52] at H
                         exact absurd H (by simp)
                     · rw [if_neg c50] at H
                       exact absurd H (by simp)
                   · rw [if_neg c48] at H
                     exact absurd H (by simp)
                 · rw [if_neg c47] at H
                   have c47b0 : decide (x7_2 < (((rd_T27 l0 0).f2).length : Int)) = false := decide_eq_false c47
                   clear c47
                   obtain rfl := sj H
                   have p541 : 0 ≤ (0 : Int) := (by omega)
                   have q541 : 0 < (l0.length : Int) := pD
                   obtain ⟨ad541, A541_1, c541_1, A541_2, c541_2, e541, hx541_0, hx541_1, hx541_2, hl541_1, hi541_1, hl541_2, hi541_2⟩ := at_T27 HR0.out 0 p541 q541
                   obtain rfl : ad497 = ad541 := (by injection e541)
                   have qi541 : (0 < l0.length) = True := eq_true (by omega)
                   (try rw [z0, zm, az] at hx541_0); (try rw [z0, zm, az] at hx541_1); (try rw [z0, zm, az] at hx541_2); replace hx541_0 := cb HB hx541_0; replace hx541_1 := cb HB hx541_1; replace hx541_2 := cb HB hx541_2; have HR541_1 := am hi541_1; have HC541_1 := am hl541_1; clear hi541_1 hl541_1; have HR541_2 := am hi541_2; have HC541_2 := am hl541_2; clear hi541_2 hl541_2; replace p541 := eq_true p541; replace q541 := eq_true q541
                   go_wp2
                   go_ret
                   exact ⟨_, pE, (pR HO_5), pB⟩
               · rw [if_neg c46] at H
                 exact absurd H (by simp)
           · rw [if_neg c42] at H
             exact absurd H (by simp)
       · rw [if_neg c12] at H
         exact absurd H (by simp)
   · rw [if_neg c6] at H
     exact absurd H (by simp)
 · rw [if_neg c3] at H
   exact absurd H (by simp)
end Go.Proofs.Ythjlbpgiaehjnaa.QFnNames
