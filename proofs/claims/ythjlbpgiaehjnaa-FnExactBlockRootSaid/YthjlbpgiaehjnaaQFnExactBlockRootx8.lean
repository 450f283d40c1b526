-- written by this session's program (wip/tools/myprint.py)
import Derived.Test.YthjlbpgiaehjnaaQFnExactBlockRootx0
import Derived.Test.YthjlbpgiaehjnaaQFnExactBlockRootx6
import Derived.Test.YthjlbpgiaehjnaaQFnExactBlockRootx7
-- squeezed
namespace Go.Proofs.Ythjlbpgiaehjnaa.QFnExactBlockRoot
open Go.RowKit Go.Proofs.YthjlbpgiaehjnaaW.PrintWords Go.Proofs.YthjlbpgiaehjnaaW.PrintLast Go.Proofs.YthjlbpgiaehjnaaW.PrintMore
attribute [local go_sem] max2_int min2_int max_two min_two max_three min_three max_four min_four   -- for this text's walks alone
set_option linter.unusedVariables false
set_option linter.unusedSimpArgs false
set_option maxHeartbeats 8000000
set_option maxRecDepth 100000
mutual
def spec_l3Pack_in.l0 : Nat → List (S27) → Bool → List Int → Int → Option (List Int)
 | 0, _, _, _, _ => none
 | k + 1, x0, x1, x5, x6 => if 0 < (x0.length : Int) then (if x6 < (((rd_T27 x0 0).f1).length : Int) then (if 0 ≤ x6 then ((spec_l3Big.f ((rd_T34 ((rd_T27 x0 0).f1) x6).f0)).bind fun t276 => (if x5.length + t276.length < 140737488355328 then ((some (x5 ++ t276 : List Int)).bind fun y279 => ((spec_l3Put.f ((rd_T34 ((rd_T27 x0 0).f1) x6).f1)).bind fun t283 => (if y279.length + t283.length < 140737488355328 then ((some (y279 ++ t283 : List Int)).bind fun y286 => (if x1 = true then ((spec_l3List.f k ((rd_T34 ((rd_T27 x0 0).f1) x6).f2)).bind fun t291 => (if y286.length + t291.length < 140737488355328 then (spec_l3Pack_in.l0 k x0 x1 (y286 ++ t291) (wrap64 (x6 + 1))) else (none))) else (if y286.length < 140737488355328 then (spec_l3Pack_in.l0 k x0 x1 (y286 ++ [0]) (wrap64 (x6 + 1))) else (none)))) else (none)))) else (none))) else (none)) else ((spec_l3Put.f (((rd_T27 x0 0).f2).length : Int)).bind fun t301 => (if x5.length + t301.length < 140737488355328 then (spec_l3Pack_in.l1 k x0 (x5 ++ t301) 0) else (none)))) else (none)
def spec_l3Pack_in.l1 : Nat → List (S27) → List Int → Int → Option (List Int)
 | 0, _, _, _ => none
 | k + 1, x0, x5, x7 => if 0 < (x0.length : Int) then (if x7 < (((rd_T27 x0 0).f2).length : Int) then (if 0 ≤ x7 then ((spec_l3Big.f ((rd_T86 ((rd_T27 x0 0).f2) x7).f0)).bind fun t310 => (if x5.length + t310.length < 140737488355328 then ((some (x5 ++ t310 : List Int)).bind fun y313 => ((spec_l3List.f k ((rd_T86 ((rd_T27 x0 0).f2) x7).f1)).bind fun t317 => (if y313.length + t317.length < 140737488355328 then (spec_l3Pack_in.l1 k x0 (y313 ++ t317) (wrap64 (x7 + 1))) else (none)))) else (none))) else (none)) else (some x5)) else (none)
end
def spec_l3Pack_in.f (k : Nat) (l0 : List (S27)) (a1 : Bool) : Option (List Int) := if 0 < (l0.length : Int) then ((spec_l3Put.f ((rd_T27 l0 0).f0)).bind fun t264 => ((spec_l3Put.f (((rd_T27 l0 0).f1).length : Int)).bind fun t267 => (if t264.length + t267.length < 140737488355328 then (spec_l3Pack_in.l0 k l0 a1 (t264 ++ t267) 0) else (none)))) else (none)
theorem spec_l3Pack_in.mono_l : ∀ k, (∀ y0 y1 y2 y3, LeO (spec_l3Pack_in.l0 k y0 y1 y2 y3) (spec_l3Pack_in.l0 (k + 1) y0 y1 y2 y3)) ∧ (∀ y0 y1 y2, LeO (spec_l3Pack_in.l1 k y0 y1 y2) (spec_l3Pack_in.l1 (k + 1) y0 y1 y2))
 | 0 => ⟨fun _ _ _ _ r h => by simp [spec_l3Pack_in.l0] at h, fun _ _ _ r h => by simp [spec_l3Pack_in.l1] at h⟩
 | k + 1 => by
  obtain ⟨ih0, ih1⟩ := spec_l3Pack_in.mono_l k
  refine ⟨?_, ?_⟩
  · intro y0 y1 y2 y3
    unfold spec_l3Pack_in.l0
    repeat' with_reducible first | exact ih0 _ _ _ _ | exact ih1 _ _ _ | exact spec_l3List.mono _ _ | exact LeO.refl _ | exact LeO.none _ | refine LeO.ite ?_ ?_ | refine LeO.bind ?_ (fun _ => ?_)
  · intro y0 y1 y2
    unfold spec_l3Pack_in.l1
    repeat' with_reducible first | exact ih0 _ _ _ _ | exact ih1 _ _ _ | exact spec_l3List.mono _ _ | exact LeO.refl _ | exact LeO.none _ | refine LeO.ite ?_ ?_ | refine LeO.bind ?_ (fun _ => ?_)
theorem spec_l3Pack_in.mono : ∀ a0 a1 k, LeO (spec_l3Pack_in.f k a0 a1) (spec_l3Pack_in.f (k + 1) a0 a1) := by
 intro a0 a1 k
 obtain ⟨ih0, ih1⟩ := spec_l3Pack_in.mono_l k
 unfold spec_l3Pack_in.f
 repeat' with_reducible first | exact ih0 _ _ _ _ | exact ih1 _ _ _ | exact spec_l3List.mono _ _ | exact LeO.refl _ | exact LeO.none _ | refine LeO.ite ?_ ?_ | refine LeO.bind ?_ (fun _ => ?_)
def spec_l3Pack_in.T1 : Bool × List (List Nat × List Nat) := (true, [([], []), ([0], [0]), ([1], [1]), ([2], [2]), ([3], [3]), ([], []), ([5], [5]), ([6], [6]), ([7], [7]), ([8], [8]), ([9, 4], [9]), ([4, 10, 10], [4, 10]), ([11, 11, 0, 1, 2, 3, 4, 5, 6, 7, 8, 9, 10, 11], [11])])
def spec_l3Pack_in.B1 : List Nat := [0, 1, 3, 7, 15, 0, 32, 96, 224, 480, 1023, 2047, 4095]
theorem spec_l3Pack_in.tab1 : rtab .any (opsOf Try.f71 1) = spec_l3Pack_in.T1 := by kernel_rfl
theorem spec_l3Pack_in.bits1 : waitsOk spec_l3Pack_in.T1.2 spec_l3Pack_in.B1 = true := by kernel_rfl
def spec_l3Pack_in.T5 : Bool × List (List Nat × List Nat) := (true, [([], []), ([], []), ([1], [1]), ([2], [2]), ([3], [3]), ([], []), ([4, 5], [4, 5]), ([6], [6]), ([7], [7]), ([8], [8]), ([0, 9, 9], [0, 9]), ([], []), ([11], [11]), ([12], [12]), ([13], [13]), ([], []), ([14, 15], [14, 15]), ([16], [16]), ([17], [17]), ([18, 10], [18]), ([10, 19, 19], [10, 19]), ([20, 20, 0, 1, 2, 3, 4, 5, 6, 7, 8, 9, 10, 11, 12, 13, 14, 15, 16, 17, 18, 19, 20], [0, 20])])
def spec_l3Pack_in.B5 : List Nat := [0, 0, 2, 6, 14, 0, 62, 126, 254, 510, 1023, 0, 2048, 6144, 14336, 0, 63488, 129024, 260096, 524287, 1048575, 2097151]
theorem spec_l3Pack_in.tab5 : rtab .any (opsOf Try.f71 5) = spec_l3Pack_in.T5 := by kernel_rfl
theorem spec_l3Pack_in.bits5 : waitsOk spec_l3Pack_in.T5.2 spec_l3Pack_in.B5 = true := by kernel_rfl
def spec_l3Pack_in.T13 : Bool × List (List Nat × List Nat) := (true, [([], []), ([], []), ([1], [1]), ([2], [2]), ([3], [3]), ([], []), ([4, 5], [4, 5]), ([6], [6]), ([7], [7]), ([8], [8]), ([0, 9, 9], [0, 9]), ([], []), ([11], [11]), ([12], [12]), ([13], [13]), ([], []), ([14, 15], [14, 15]), ([16], [16]), ([17], [17]), ([18, 10], [18]), ([10, 19, 19], [10, 19]), ([20, 20, 0, 1, 2, 3, 4, 5, 6, 7, 8, 9, 10, 11, 12, 13, 14, 15, 16, 17, 18, 19, 20], [0, 20])])
def spec_l3Pack_in.B13 : List Nat := [0, 0, 2, 6, 14, 0, 62, 126, 254, 510, 1023, 0, 2048, 6144, 14336, 0, 63488, 129024, 260096, 524287, 1048575, 2097151]
theorem spec_l3Pack_in.tab13 : rtab .any (opsOf Try.f71 13) = spec_l3Pack_in.T13 := by kernel_rfl
theorem spec_l3Pack_in.bits13 : waitsOk spec_l3Pack_in.T13.2 spec_l3Pack_in.B13 = true := by kernel_rfl
theorem spec_l3Pack_in.calls (k : Nat) (A0 : Option Addr) (c0 : Nat) (l0 : List (S27)) (a1 : Bool) (r : List Int) (w : World) (hr0 : Kd.C k27 w A0 l0.length l0) (hc0 : l0.length ≤ c0) (h : spec_l3Pack_in.f k l0 a1 = some r) :
 Calls Try.prog 71 #[.pointer A0, .bool a1] w fun e w' => ∃ v0_ : Value, e = .returned (v0_) ∧ Kd.R (Kd.int .u8) 5 w' w.heap.size (fun _ => True) v0_ r ∧ Below w.heap.size w w' := by
 have HR0 := am hr0; have HC0 := am hc0; clear hr0 hc0
 have HB := am (Below.refl w.heap.size w)
 have H : (if 0 < (l0.length : Int) then ((spec_l3Put.f ((rd_T27 l0 0).f0)).bind fun t264 => ((spec_l3Put.f (((rd_T27 l0 0).f1).length : Int)).bind fun t267 => (if t264.length + t267.length < 140737488355328 then (spec_l3Pack_in.l0 k l0 a1 (t264 ++ t267) 0) else (none)))) else (none)) = some r := h
 clear h
 by_cases c3 : 0 < (l0.length : Int)
 · rw [if_pos c3] at H
   have c3b0 : decide (0 < (l0.length : Int)) = true := dt c3
   have c3b1 : decide (0 < l0.length) = true := dt (by omega)
   clear c3
   obtain ⟨t264, A40, H⟩ := bO H
   replace H : ((spec_l3Put.f (((rd_T27 l0 0).f1).length : Int)).bind fun t267 => (if t264.length + t267.length < 140737488355328 then (spec_l3Pack_in.l0 k l0 a1 (t264 ++ t267) 0) else (none))) = some r := H
   have A4 := am A40; clear A40
   obtain ⟨t267, A50, H⟩ := bO H
   replace H : (if t264.length + t267.length < 140737488355328 then (spec_l3Pack_in.l0 k l0 a1 (t264 ++ t267) 0) else (none)) = some r := H
   have A5 := am A50; clear A50
   by_cases c6 : t264.length + t267.length < 140737488355328
   · rw [if_pos c6] at H
     have LMc6 := am c6; clear c6
     obtain ⟨y270, hy270⟩ : ∃ y_ : List Int, y_ = (t264 ++ t267) := ⟨_, rfl⟩
     replace H : (spec_l3Pack_in.l0 k l0 a1 y270 0) = some r := by first | (rw [hy270]; with_reducible exact H) | (have H2_ := (Option.bind_some _ _).symm.trans H; rw [hy270]; with_reducible exact H2_) | (have H2_ := (Option.bind_some _ _).symm.trans H; with_reducible exact H2_) | with_reducible exact H | (rw [hy270]; exact H) | exact H
     have Ny270 := am hy270; clear hy270
     have H' := am H
     clear H
     go_enter Try.func71, Try.ntmps71
     try go_wp2
     have n_ := am (below_drew1 HB.out)
     clear HB; have HB := n_; clear n_
     have p263 : 0 ≤ (0 : Int) := (by omega)
     have q263 : 0 < (l0.length : Int) := pD
     obtain ⟨ad263, A263_1, c263_1, A263_2, c263_2, e263, hx263_0, hx263_1, hx263_2, hl263_1, hi263_1, hl263_2, hi263_2⟩ := at_T27 HR0.out 0 p263 q263
     have hw263_2 := hx263_2
     (try rw [z0, zm, az] at hw263_2)
     have hw263_1 := hx263_1
     (try rw [z0, zm, az] at hw263_1)
     have hw263_0 := hx263_0
     (try rw [z0, zm, az] at hw263_0); cases e263
     have qi263 : (0 < l0.length) = True := eq_true (by omega)
     (try rw [z0, zm, az] at hx263_0); (try rw [z0, zm, az] at hx263_1); (try rw [z0, zm, az] at hx263_2); replace hx263_0 := cb HB hx263_0; replace hx263_1 := cb HB hx263_1; replace hx263_2 := cb HB hx263_2; have HR263_1 := am hi263_1; have HC263_1 := am hl263_1; clear hi263_1 hl263_1; have HR263_2 := am hi263_2; have HC263_2 := am hl263_2; clear hi263_2 hl263_2; replace p263 := eq_true p263; replace q263 := eq_true q263
     refine start_ (n := 13) (S := fun w' => w'.cell? ad263 = some (.int .i64 ((rd_T27 l0 0).f0)) ∧ w'.cell? ⟨ad263.block, ad263.off + 1, none⟩ = some (.slice A263_1 ((rd_T27 l0 0).f1).length c263_1) ∧ w'.cell? ⟨ad263.block, ad263.off + 2, none⟩ = some (.slice A263_2 ((rd_T27 l0 0).f2).length c263_2)) (ds := []) #[false, false, false, false, false, false, false, false, false, false, false, false, false] (by kernel_rfl) rfl rfl ⟨(cb HB hw263_0), (cb HB hw263_1), (cb HB hw263_2)⟩ (fun hHeld => ?_); refine with_tabW spec_l3Pack_in.tab1 spec_l3Pack_in.bits1 (fun HT_ HW_ => ?_)
     generalize w.drew = w7 at HB HR263_1 HR263_2 hx263_0 hx263_1 hx263_2 hHeld ⊢
     refine rP 0 (some 8) #[true, false, false, false, false, false, false, false, false, false, false, false, false] (any_of HT_.out (by kernel_rfl)) ?_
     refine rP 1 (some 9) #[true, true, false, false, false, false, false, false, false, false, false, false, false] (any_of HT_.out (by kernel_rfl)) ?_
     refine rP 2 (some 10) #[true, true, true, false, false, false, false, false, false, false, false, false, false] (any_of HT_.out (by kernel_rfl)) ?_
     refine rP 5 (some 13) #[true, true, true, false, false, true, false, false, false, false, false, false, false] (any_of HT_.out (by kernel_rfl)) ?_
     refine rP 6 (some 14) #[true, true, true, false, false, true, true, false, false, false, false, false, false] (any_of HT_.out (by kernel_rfl)) ?_
     refine rP 7 (some 15) #[true, true, true, false, false, true, true, true, false, false, false, false, false] (any_of HT_.out (by kernel_rfl)) ?_
     refine rT 3 (some 11) #[true, true, true, true, false, true, true, true, false, false, false, false, false] (take_ofW HT_.out HW_.out (by kernel_rfl)) hHeld ?_
     refine rT 8 (some 16) #[true, true, true, true, false, true, true, true, true, false, false, false, false] (take_ofW HT_.out HW_.out (by kernel_rfl)) hHeld ?_
     refine rP 9 (some 17) #[true, true, true, true, false, true, true, true, true, true, false, false, false] (any_of HT_.out (by kernel_rfl)) ?_
     refine one_ (i := 4) (N := some 12) #[true, true, true, true, true, true, true, true, true, true, false, false, false] rfl rfl (one_of HT_.out (by kernel_rfl)) (by decide) (fun K hK => ?_)
     refine goes_ Try.func80 (by kernel_rfl) rfl #[.int .i64 ((rd_T27 l0 0).f0)] (by rfl) rfl rfl pA ?_
     with_reducible refine (spec_l3Put.calls ((rd_T27 l0 0).f0) t264 _ A4.out).mono ?_
     rintro e w8 ⟨v265, rfl, ho0, hb⟩
     refine ⟨_, rfl, ?_⟩
     have n_ := t2 (rL ho0 (bs_ pB)) (bz_ pB hb)
     clear HB; obtain ⟨HO266, HB⟩ := n_; (try clear hb); (try clear hb2); (try clear hk); (try clear hi); (try clear ho0)
     refine hK.out _ _ ⟨(cb HB hw263_0), (cb HB hw263_1), (cb HB hw263_2)⟩ (fun hHeld => ?_)
     clear hK K
     refine rN ?_
     refine one_ (i := 10) (N := some 18) #[true, true, true, true, true, true, true, true, true, true, true, false, false] rfl rfl (one_of HT_.out (by kernel_rfl)) (by decide) (fun K hK => ?_)
     refine goes_ Try.func80 (by kernel_rfl) rfl #[.int .i64 (((rd_T27 l0 0).f1).length : Int)] (by rfl) rfl rfl pA ?_
     with_reducible refine (spec_l3Put.calls (((rd_T27 l0 0).f1).length : Int) t267 _ A5.out).mono ?_
     rintro e w9 ⟨v268, rfl, ho0, hb⟩
     refine ⟨_, rfl, ?_⟩
     have n_ := t3 (rE (pR HO266) (rB ho0) hb) (rL (rW ho0 (Kd.R_lt (pR HO266))) (bs_ pB)) (bz_ pB hb)
     clear HO266 HB; obtain ⟨HO266, HO269, HB⟩ := n_; (try clear hb); (try clear hb2); (try clear hk); (try clear hi); (try clear ho0)
     obtain ⟨Ao11, co11, eo11⟩ := rS HO269.out
     (first | subst eo11 | (injection eo11 with f1_ f2_ f3_; have f4_ := f1_.symm; have f5_ := f3_.symm; clear f1_ f2_ f3_; subst f4_; subst f5_))
     refine hK.out _ _ ⟨(cb HB hw263_0), (cb HB hw263_1), (cb HB hw263_2)⟩ (fun hHeld => ?_)
     clear hK K
     refine rN ?_
     refine one_ (i := 11) (N := some 19) #[true, true, true, true, true, true, true, true, true, true, true, true, false] rfl rfl (one_of HT_.out (by kernel_rfl)) (by decide) (fun K hK => ?_)
     refine Kd.R_append_rows_step (Kd.int .u8) (w0 := w) w.heap.size (by rfl) (.tmp 12) (.tmp 18) 22 5 (.int .u8 0) 1 rfl Try.underlying22 info5 rfl (by decide) (by omega) v265 t264 t267 _ _ _ (fun k_ => some k_ ≠ (.slice Ao11 t267.length co11 : Value).ownBlock) (fun _ => False) rfl rfl ?aO ?aR (fun _ _ h => h) (fun _ h => h.elim) ?aF ?aB ?aS ?aL ?_
     (case aR => exact pC (rr HO269.out).2.2)
     (case aB => exact pB)
     (case aF => exact (fun k_ hk => Kd.fresh' (Kd.R_lt (pR HO269)) k_ hk))
     (case aO => exact (pT (Kd.R_mono HO266.out (fun _ hk => hk.2))))
     (case aS => exact (bs_ pB))
     (case aL => have := LMc6.out; omega)
     intro v271 w10 ho hb hg hat
     rw [← Ny270.out] at ho
     have n_ := t3 (Kd.R_after (ok := (fun _ => True)) (pR HO269) hg hat) (hb) (ho)
     clear HO269 HB HO266; obtain ⟨HO269, HB, HO272⟩ := n_; clear ho hb hg hat
     refine hK.out _ _ ⟨(cb HB hw263_0), (cb HB hw263_1), (cb HB hw263_2)⟩ (fun hHeld => ?_)
     clear hK K
     refine rN ?_
     refine rP 12 (some 5) #[true, true, true, true, true, true, true, true, true, true, true, true, true] (any_of HT_.out (by kernel_rfl)) ?_
     refine done_ (done_of HT_.out (by kernel_rfl)) ?_
     try go_wp2
     go_loopg [5, 6] k (fun kq v5 v6 w' => ∃ (x5_1 : List Int) (x6_1 : Int), v6 = .int .i64 x6_1 ∧ Aside0 (spec_l3Pack_in.l0 kq l0 a1 x5_1 x6_1 = some r) ∧ Aside0 (kq ≤ k) ∧ Aside0 (Kd.R (Kd.int .u8) 5 w' w.heap.size (fun _ => True) v5 x5_1) ∧ Aside0 (Below w.heap.size w w'))
     case atStart => exact ⟨(y270), (0), pF, H', ⟨Nat.le_refl _⟩, ⟨(pT (Kd.R_mono HO272.out (fun _ hk => trivial)))⟩, ⟨pB⟩⟩
     case round =>
      clear H'
      (try clear c3); (try clear c3b0); (try clear c3b1); (try clear c6); (try clear hx263_0); (try clear hx263_1); (try clear hx263_2); (try clear p263); (try clear q263)
      obtain ⟨x5_1, x6_1, rfl, HA, HK1, HO_5, HB⟩ := hrel
      cases gk with
      | zero => exact absurd HA.out (by simp [spec_l3Pack_in.l0])
      | succ k1 =>
       have H := HA.out
       clear HA
       simp only [spec_l3Pack_in.l0] at H
       by_cases c12 : 0 < (l0.length : Int)
       · rw [if_pos c12] at H
         have c12b0 : decide (0 < (l0.length : Int)) = true := dt c12
         have c12b1 : decide (0 < l0.length) = true := dt (by omega)
         clear c12
         by_cases c13 : x6_1 < (((rd_T27 l0 0).f1).length : Int)
         · rw [if_pos c13] at H
           have c13b0 : decide (x6_1 < (((rd_T27 l0 0).f1).length : Int)) = true := dt c13
           clear c13
           by_cases c14 : 0 ≤ x6_1
           · rw [if_pos c14] at H
             have c14b0 : decide (0 ≤ x6_1) = true := dt c14
             clear c14
             obtain ⟨t276, A150, H⟩ := bO H
             replace H : (if x5_1.length + t276.length < 140737488355328 then ((some (x5_1 ++ t276 : List Int)).bind fun y279 => ((spec_l3Put.f ((rd_T34 ((rd_T27 l0 0).f1) x6_1).f1)).bind fun t283 => (if y279.length + t283.length < 140737488355328 then ((some (y279 ++ t283 : List Int)).bind fun y286 => (if a1 = true then ((spec_l3List.f k1 ((rd_T34 ((rd_T27 l0 0).f1) x6_1).f2)).bind fun t291 => (if y286.length + t291.length < 140737488355328 then (spec_l3Pack_in.l0 k1 l0 a1 (y286 ++ t291) (wrap64 (x6_1 + 1))) else (none))) else (if y286.length < 140737488355328 then (spec_l3Pack_in.l0 k1 l0 a1 (y286 ++ [0]) (wrap64 (x6_1 + 1))) else (none)))) else (none)))) else (none)) = some r := H
             have A15 := am A150; clear A150
             by_cases c16 : x5_1.length + t276.length < 140737488355328
             · rw [if_pos c16] at H
               have LMc16 := am c16; clear c16
               obtain ⟨y279, hy279⟩ : ∃ y_ : List Int, y_ = (x5_1 ++ t276) := ⟨_, rfl⟩
               replace H : ((spec_l3Put.f ((rd_T34 ((rd_T27 l0 0).f1) x6_1).f1)).bind fun t283 => (if y279.length + t283.length < 140737488355328 then ((some (y279 ++ t283 : List Int)).bind fun y286 => (if a1 = true then ((spec_l3List.f k1 ((rd_T34 ((rd_T27 l0 0).f1) x6_1).f2)).bind fun t291 => (if y286.length + t291.length < 140737488355328 then (spec_l3Pack_in.l0 k1 l0 a1 (y286 ++ t291) (wrap64 (x6_1 + 1))) else (none))) else (if y286.length < 140737488355328 then (spec_l3Pack_in.l0 k1 l0 a1 (y286 ++ [0]) (wrap64 (x6_1 + 1))) else (none)))) else (none))) = some r := by first | (rw [hy279]; with_reducible exact H) | (have H2_ := (Option.bind_some _ _).symm.trans H; rw [hy279]; with_reducible exact H2_) | (have H2_ := (Option.bind_some _ _).symm.trans H; with_reducible exact H2_) | with_reducible exact H | (rw [hy279]; exact H) | exact H
               have Ny279 := am hy279; clear hy279
               obtain ⟨t283, A170, H⟩ := bO H
               replace H : (if y279.length + t283.length < 140737488355328 then ((some (y279 ++ t283 : List Int)).bind fun y286 => (if a1 = true then ((spec_l3List.f k1 ((rd_T34 ((rd_T27 l0 0).f1) x6_1).f2)).bind fun t291 => (if y286.length + t291.length < 140737488355328 then (spec_l3Pack_in.l0 k1 l0 a1 (y286 ++ t291) (wrap64 (x6_1 + 1))) else (none))) else (if y286.length < 140737488355328 then (spec_l3Pack_in.l0 k1 l0 a1 (y286 ++ [0]) (wrap64 (x6_1 + 1))) else (none)))) else (none)) = some r := H
               have A17 := am A170; clear A170
               by_cases c18 : y279.length + t283.length < 140737488355328
               · rw [if_pos c18] at H
                 have LMc18 := am c18; clear c18
                 obtain ⟨y286, hy286⟩ : ∃ y_ : List Int, y_ = (y279 ++ t283) := ⟨_, rfl⟩
                 replace H : (if a1 = true then ((spec_l3List.f k1 ((rd_T34 ((rd_T27 l0 0).f1) x6_1).f2)).bind fun t291 => (if y286.length + t291.length < 140737488355328 then (spec_l3Pack_in.l0 k1 l0 a1 (y286 ++ t291) (wrap64 (x6_1 + 1))) else (none))) else (if y286.length < 140737488355328 then (spec_l3Pack_in.l0 k1 l0 a1 (y286 ++ [0]) (wrap64 (x6_1 + 1))) else (none))) = some r := by first | (rw [hy286]; with_reducible exact H) | (have H2_ := (Option.bind_some _ _).symm.trans H; rw [hy286]; with_reducible exact H2_) | (have H2_ := (Option.bind_some _ _).symm.trans H; with_reducible exact H2_) | with_reducible exact H | (rw [hy286]; exact H) | exact H
                 have Ny286 := am hy286; clear hy286
                 by_cases c19 : a1 = true
                 · subst c19
                   have H1 : ((spec_l3List.f k1 ((rd_T34 ((rd_T27 l0 0).f1) x6_1).f2)).bind fun t291 => (if y286.length + t291.length < 140737488355328 then (spec_l3Pack_in.l0 k1 l0 true (y286 ++ t291) (wrap64 (x6_1 + 1))) else (none))) = some r := by rw [if_pos rfl] at H; exact H
                   clear H; have H := H1; clear H1
                   obtain ⟨t291, A200, H⟩ := bO H
                   replace H : (if y286.length + t291.length < 140737488355328 then (spec_l3Pack_in.l0 k1 l0 true (y286 ++ t291) (wrap64 (x6_1 + 1))) else (none)) = some r := H
                   have A20 := am A200; clear A200
                   by_cases c21 : y286.length + t291.length < 140737488355328
                   · rw [if_pos c21] at H
                     have LMc21 := am c21; clear c21
                     obtain ⟨y294, hy294⟩ : ∃ y_ : List Int, y_ = (y286 ++ t291) := ⟨_, rfl⟩
                     replace H : (spec_l3Pack_in.l0 k1 l0 true y294 (wrap64 (x6_1 + 1))) = some r := by first | (rw [hy294]; with_reducible exact H) | (have H2_ := (Option.bind_some _ _).symm.trans H; rw [hy294]; with_reducible exact H2_) | (have H2_ := (Option.bind_some _ _).symm.trans H; with_reducible exact H2_) | with_reducible exact H | (rw [hy294]; exact H) | exact H
                     have Ny294 := am hy294; clear hy294
                     have H' := am H
                     clear H
                     have p273 : 0 ≤ (0 : Int) := (by omega)
                     have q273 : 0 < (l0.length : Int) := pD
                     (try clear hx263_0); (try clear hx263_1); (try clear hx263_2); (try clear hHeld)
                     obtain ⟨ad273, A273_1, c273_1, A273_2, c273_2, e273, hx273_0, hx273_1, hx273_2, hl273_1, hi273_1, hl273_2, hi273_2⟩ := at_T27 HR0.out 0 p273 q273
                     obtain rfl : ad263 = ad273 := (by injection e273)
                     have qi273 : (0 < l0.length) = True := eq_true (by omega)
                     (try rw [z0, zm, az] at hx273_0); (try rw [z0, zm, az] at hx273_1); (try rw [z0, zm, az] at hx273_2); replace hx273_0 := cb HB hx273_0; replace hx273_1 := cb HB hx273_1; replace hx273_2 := cb HB hx273_2; have HR273_1 := am hi273_1; have HC273_1 := am hl273_1; clear hi273_1 hl273_1; have HR273_2 := am hi273_2; have HC273_2 := am hl273_2; clear hi273_2 hl273_2; replace p273 := eq_true p273; replace q273 := eq_true q273
                     try go_wp2
                     have n_ := t2 (Kd.R_drew HO_5.out) (below_drew1 HB.out)
                     clear HO_5 HB; obtain ⟨HO_5, HB⟩ := n_
                     have p274 : 0 ≤ (0 : Int) := (by omega)
                     have q274 : 0 < (l0.length : Int) := pD
                     (try clear hx273_0); (try clear hx273_1); (try clear hx273_2); (try clear hHeld)
                     obtain ⟨ad274, A274_1, c274_1, A274_2, c274_2, e274, hx274_0, hx274_1, hx274_2, hl274_1, hi274_1, hl274_2, hi274_2⟩ := at_T27 HR0.out 0 p274 q274
                     have hw274_2 := hx274_2
                     (try rw [z0, zm, az] at hw274_2)
                     have hw274_1 := hx274_1
                     (try rw [z0, zm, az] at hw274_1)
                     have hw274_0 := hx274_0
                     (try rw [z0, zm, az] at hw274_0)
                     obtain rfl : ad263 = ad274 := (by injection e274)
                     have qi274 : (0 < l0.length) = True := eq_true (by omega)
                     (try rw [z0, zm, az] at hx274_0); (try rw [z0, zm, az] at hx274_1); (try rw [z0, zm, az] at hx274_2); replace hx274_0 := cb HB hx274_0; replace hx274_1 := cb HB hx274_1; replace hx274_2 := cb HB hx274_2; have HR274_1 := am hi274_1; have HC274_1 := am hl274_1; clear hi274_1 hl274_1; have HR274_2 := am hi274_2; have HC274_2 := am hl274_2; clear hi274_2 hl274_2; replace p274 := eq_true p274; replace q274 := eq_true q274
                     have p275 : 0 ≤ (x6_1 : Int) := pD
                     have q275 : x6_1 < (((rd_T27 l0 0).f1).length : Int) := pD
                     obtain ⟨ad275, A275_2, c275_2, e275, hx275_0, hx275_1, hx275_2, hl275_2, hi275_2⟩ := at_T34 HR274_1.out x6_1 p275 q275
                     have hw275_2 := hx275_2
                     have hw275_1 := hx275_1
                     have hw275_0 := hx275_0
                     cases e275; replace hx275_0 := cb HB hx275_0; replace hx275_1 := cb HB hx275_1; replace hx275_2 := cb HB hx275_2; have HR275_2 := am hi275_2; have HC275_2 := am hl275_2; clear hi275_2 hl275_2; replace p275 := eq_true p275; replace q275 := eq_true q275
                     have p282 : 0 ≤ (x6_1 : Int) := pD
                     have q282 : x6_1 < (((rd_T27 l0 0).f1).length : Int) := pD
                     obtain ⟨ad282, A282_2, c282_2, e282, hx282_0, hx282_1, hx282_2, hl282_2, hi282_2⟩ := at_T34 HR274_1.out x6_1 p282 q282
                     have hw282_2 := hx282_2
                     have hw282_1 := hx282_1
                     have hw282_0 := hx282_0
                     obtain rfl : ad275 = ad282 := (by injection e282)
                     replace hx282_0 := cb HB hx282_0; replace hx282_1 := cb HB hx282_1; replace hx282_2 := cb HB hx282_2; have HR282_2 := am hi282_2; have HC282_2 := am hl282_2; clear hi282_2 hl282_2; replace p282 := eq_true p282; replace q282 := eq_true q282
                     have ea_ := sj (hx275_2.symm.trans hx282_2)
                     injection ea_ with ea_ en_ ec_
                     subst ea_; subst ec_; clear en_
                     refine start_ (n := 22) (S := fun w' => w'.cell? ad263 = some (.int .i64 ((rd_T27 l0 0).f0)) ∧ w'.cell? ⟨ad263.block, ad263.off + 1, none⟩ = some (.slice (some ad275) ((rd_T27 l0 0).f1).length c274_1) ∧ w'.cell? ⟨ad263.block, ad263.off + 2, none⟩ = some (.slice A274_2 ((rd_T27 l0 0).f2).length c274_2) ∧ w'.cell? (ad275.add ((x6_1).toNat * 3)) = some (.int .i64 ((rd_T34 ((rd_T27 l0 0).f1) x6_1).f0)) ∧ w'.cell? ⟨(ad275.add ((x6_1).toNat * 3)).block, (ad275.add ((x6_1).toNat * 3)).off + 1, none⟩ = some (.int .i64 ((rd_T34 ((rd_T27 l0 0).f1) x6_1).f1)) ∧ w'.cell? ⟨(ad275.add ((x6_1).toNat * 3)).block, (ad275.add ((x6_1).toNat * 3)).off + 2, none⟩ = some (.slice A275_2 ((rd_T34 ((rd_T27 l0 0).f1) x6_1).f2).length c275_2) ∧ w'.cell? (ad275.add ((x6_1).toNat * 3)) = some (.int .i64 ((rd_T34 ((rd_T27 l0 0).f1) x6_1).f0)) ∧ w'.cell? ⟨(ad275.add ((x6_1).toNat * 3)).block, (ad275.add ((x6_1).toNat * 3)).off + 1, none⟩ = some (.int .i64 ((rd_T34 ((rd_T27 l0 0).f1) x6_1).f1)) ∧ w'.cell? ⟨(ad275.add ((x6_1).toNat * 3)).block, (ad275.add ((x6_1).toNat * 3)).off + 2, none⟩ = some (.slice A275_2 ((rd_T34 ((rd_T27 l0 0).f1) x6_1).f2).length c275_2)) (ds := []) #[false, false, false, false, false, false, false, false, false, false, false, false, false, false, false, false, false, false, false, false, false, false] (by kernel_rfl) rfl rfl ⟨(cb HB hw274_0), (cb HB hw274_1), (cb HB hw274_2), (cb HB hw275_0), (cb HB hw275_1), (cb HB hw275_2), (cb HB hw282_0), (cb HB hw282_1), (cb HB hw282_2)⟩ (fun hHeld => ?_); refine with_tabW spec_l3Pack_in.tab5 spec_l3Pack_in.bits5 (fun HT_ HW_ => ?_)
                     generalize wr.drew = w22 at HO_5 HB HR274_1 HR274_2 HR275_2 HR282_2 hx274_0 hx274_1 hx274_2 hx275_0 hx275_1 hx275_2 hx282_0 hx282_1 hx282_2 hHeld ⊢
                     refine rP 0 (some 29) #[true, false, false, false, false, false, false, false, false, false, false, false, false, false, false, false, false, false, false, false, false, false] (any_of HT_.out (by kernel_rfl)) ?_
                     refine rP 1 (some 30) #[true, true, false, false, false, false, false, false, false, false, false, false, false, false, false, false, false, false, false, false, false, false] (any_of HT_.out (by kernel_rfl)) ?_
                     refine rP 2 (some 31) #[true, true, true, false, false, false, false, false, false, false, false, false, false, false, false, false, false, false, false, false, false, false] (any_of HT_.out (by kernel_rfl)) ?_
                     refine rP 3 (some 32) #[true, true, true, true, false, false, false, false, false, false, false, false, false, false, false, false, false, false, false, false, false, false] (any_of HT_.out (by kernel_rfl)) ?_
                     refine rP 5 (some 34) #[true, true, true, true, false, true, false, false, false, false, false, false, false, false, false, false, false, false, false, false, false, false] (any_of HT_.out (by kernel_rfl)) ?_
                     refine rP 11 (some 40) #[true, true, true, true, false, true, false, false, false, false, false, true, false, false, false, false, false, false, false, false, false, false] (any_of HT_.out (by kernel_rfl)) ?_
                     refine rP 12 (some 41) #[true, true, true, true, false, true, false, false, false, false, false, true, true, false, false, false, false, false, false, false, false, false] (any_of HT_.out (by kernel_rfl)) ?_
                     refine rP 13 (some 42) #[true, true, true, true, false, true, false, false, false, false, false, true, true, true, false, false, false, false, false, false, false, false] (any_of HT_.out (by kernel_rfl)) ?_
                     refine rP 15 (some 44) #[true, true, true, true, false, true, false, false, false, false, false, true, true, true, false, true, false, false, false, false, false, false] (any_of HT_.out (by kernel_rfl)) ?_
                     refine rT 4 (some 33) #[true, true, true, true, true, true, false, false, false, false, false, true, true, true, false, true, false, false, false, false, false, false] (take_ofW HT_.out HW_.out (by kernel_rfl)) hHeld ?_
                     refine rP 6 (some 35) #[true, true, true, true, true, true, true, false, false, false, false, true, true, true, false, true, false, false, false, false, false, false] (any_of HT_.out (by kernel_rfl)) ?_
                     refine rP 7 (some 36) #[true, true, true, true, true, true, true, true, false, false, false, true, true, true, false, true, false, false, false, false, false, false] (any_of HT_.out (by kernel_rfl)) ?_
                     refine rT 8 (some 37) #[true, true, true, true, true, true, true, true, true, false, false, true, true, true, false, true, false, false, false, false, false, false] (take_ofW HT_.out HW_.out (by kernel_rfl)) hHeld ?_
                     refine rT 14 (some 43) #[true, true, true, true, true, true, true, true, true, false, false, true, true, true, true, true, false, false, false, false, false, false] (take_ofW HT_.out HW_.out (by kernel_rfl)) hHeld ?_
                     refine rP 16 (some 45) #[true, true, true, true, true, true, true, true, true, false, false, true, true, true, true, true, true, false, false, false, false, false] (any_of HT_.out (by kernel_rfl)) ?_
                     refine rP 17 (some 46) #[true, true, true, true, true, true, true, true, true, false, false, true, true, true, true, true, true, true, false, false, false, false] (any_of HT_.out (by kernel_rfl)) ?_
                     refine rT 18 (some 47) #[true, true, true, true, true, true, true, true, true, false, false, true, true, true, true, true, true, true, true, false, false, false] (take_ofW HT_.out HW_.out (by kernel_rfl)) hHeld ?_
                     refine one_ (i := 9) (N := some 38) #[true, true, true, true, true, true, true, true, true, true, false, true, true, true, true, true, true, true, true, false, false, false] rfl rfl (one_of HT_.out (by kernel_rfl)) (by decide) (fun K hK => ?_)
                     refine goes_ Try.func125 (by kernel_rfl) rfl #[.int .i64 ((rd_T34 ((rd_T27 l0 0).f1) x6_1).f0)] (by rfl) rfl rfl pA ?_
                     with_reducible refine (spec_l3Big.calls ((rd_T34 ((rd_T27 l0 0).f1) x6_1).f0) t276 _ A15.out).mono ?_
                     rintro e w23 ⟨v277, rfl, ho0, hb⟩
                     refine ⟨_, rfl, ?_⟩
                     have n_ := t3 (rE (pR HO_5) (rB ho0) hb) (rL (rW ho0 (Kd.R_lt (pR HO_5))) (bs_ pB)) (bz_ pB hb)
                     clear HO_5 HB; obtain ⟨HO_5, HO278, HB⟩ := n_; (try clear hb); (try clear hb2); (try clear hk); (try clear hi); (try clear ho0)
                     obtain ⟨Ao25, co25, eo25⟩ := rS HO278.out
                     (first | subst eo25 | (injection eo25 with f1_ f2_ f3_; have f4_ := f1_.symm; have f5_ := f3_.symm; clear f1_ f2_ f3_; subst f4_; subst f5_))
                     refine hK.out _ _ ⟨(cb HB hw274_0), (cb HB hw274_1), (cb HB hw274_2), (cb HB hw275_0), (cb HB hw275_1), (cb HB hw275_2), (cb HB hw282_0), (cb HB hw282_1), (cb HB hw282_2)⟩ (fun hHeld => ?_)
                     clear hK K
                     refine rN ?_
                     refine one_ (i := 10) (N := some 39) #[true, true, true, true, true, true, true, true, true, true, true, true, true, true, true, true, true, true, true, false, false, false] rfl rfl (one_of HT_.out (by kernel_rfl)) (by decide) (fun K hK => ?_)
                     refine Kd.R_append_rows_step (Kd.int .u8) (w0 := w) w.heap.size (by rfl) (.tmp 29) (.tmp 38) 22 5 (.int .u8 0) 1 rfl Try.underlying22 info5 rfl (by decide) (by omega) u5 x5_1 t276 _ _ _ (fun k_ => some k_ ≠ (.slice Ao25 t276.length co25 : Value).ownBlock) (fun _ => False) rfl rfl ?aO ?aR (fun _ _ h => h) (fun _ h => h.elim) ?aF ?aB ?aS ?aL ?_
                     (case aR => exact pC (rr HO278.out).2.2)
                     (case aB => exact pB)
                     (case aF => exact (fun k_ hk => Kd.fresh' (Kd.R_lt (pR HO278)) k_ hk))
                     (case aO => exact (pT (Kd.R_mono HO_5.out (fun _ hk => hk.2))))
                     (case aS => exact (bs_ pB))
                     (case aL => have := LMc16.out; omega)
                     intro v280 w24 ho hb hg hat
                     rw [← Ny279.out] at ho
                     have n_ := t3 (Kd.R_after (ok := (fun _ => True)) (pR HO278) hg hat) (hb) (ho)
                     clear HO278 HB HO_5; obtain ⟨HO278, HB, HO281⟩ := n_; clear ho hb hg hat
                     refine hK.out _ _ ⟨(cb HB hw274_0), (cb HB hw274_1), (cb HB hw274_2), (cb HB hw275_0), (cb HB hw275_1), (cb HB hw275_2), (cb HB hw282_0), (cb HB hw282_1), (cb HB hw282_2)⟩ (fun hHeld => ?_)
                     clear hK K
                     refine rN ?_
                     refine one_ (i := 19) (N := some 48) #[true, true, true, true, true, true, true, true, true, true, true, true, true, true, true, true, true, true, true, true, false, false] rfl rfl (one_of HT_.out (by kernel_rfl)) (by decide) (fun K hK => ?_)
                     refine goes_ Try.func80 (by kernel_rfl) rfl #[.int .i64 ((rd_T34 ((rd_T27 l0 0).f1) x6_1).f1)] (by rfl) rfl rfl pA ?_
                     with_reducible refine (spec_l3Put.calls ((rd_T34 ((rd_T27 l0 0).f1) x6_1).f1) t283 _ A17.out).mono ?_
                     rintro e w26 ⟨v284, rfl, ho0, hb⟩
                     refine ⟨_, rfl, ?_⟩
                     have n_ := t4 (rE (pR HO278) (rB ho0) hb) (rE (pR HO281) (rB ho0) hb) (rL (rW (rW ho0 (Kd.R_lt (pR HO278))) (Kd.R_lt (pR HO281))) (bs_ pB)) (bz_ pB hb)
                     clear HO278 HO281 HB; obtain ⟨HO278, HO281, HO285, HB⟩ := n_; (try clear hb); (try clear hb2); (try clear hk); (try clear hi); (try clear ho0)
                     obtain ⟨Ao28, co28, eo28⟩ := rS HO285.out
                     (first | subst eo28 | (injection eo28 with f1_ f2_ f3_; have f4_ := f1_.symm; have f5_ := f3_.symm; clear f1_ f2_ f3_; subst f4_; subst f5_))
                     refine hK.out _ _ ⟨(cb HB hw274_0), (cb HB hw274_1), (cb HB hw274_2), (cb HB hw275_0), (cb HB hw275_1), (cb HB hw275_2), (cb HB hw282_0), (cb HB hw282_1), (cb HB hw282_2)⟩ (fun hHeld => ?_)
                     clear hK K
                     refine rN ?_
                     refine one_ (i := 20) (N := some 49) #[true, true, true, true, true, true, true, true, true, true, true, true, true, true, true, true, true, true, true, true, true, false] rfl rfl (one_of HT_.out (by kernel_rfl)) (by decide) (fun K hK => ?_)
                     refine Kd.R_append_rows_step (Kd.int .u8) (w0 := w) w.heap.size (by rfl) (.tmp 39) (.tmp 48) 22 5 (.int .u8 0) 1 rfl Try.underlying22 info5 rfl (by decide) (by omega) v280 y279 t283 _ _ _ (fun k_ => some k_ ≠ (.slice Ao25 t276.length co25 : Value).ownBlock ∧ some k_ ≠ (.slice Ao28 t283.length co28 : Value).ownBlock) (fun _ => False) rfl rfl ?aO ?aR (fun _ _ h => h) (fun _ h => h.elim) ?aF ?aB ?aS ?aL ?_
                     (case aR => exact pC (rr HO285.out).2.2)
                     (case aB => exact pB)
                     (case aF => exact (fun k_ hk => ⟨Kd.fresh' (Kd.R_lt (pR HO278)) k_ hk, Kd.fresh' (Kd.R_lt (pR HO285)) k_ hk⟩))
                     (case aO => exact (pR HO281))
                     (case aS => exact (bs_ pB))
                     (case aL => have := LMc18.out; omega)
                     intro v287 w27 ho hb hg hat
                     rw [← Ny286.out] at ho
                     have n_ := t4 (Kd.R_after (ok := (fun k_ => some k_ ≠ (.slice Ao28 t283.length co28 : Value).ownBlock)) (pT (Kd.R_mono HO278.out (fun _ hk => ⟨hk.2, hk.1.2⟩))) hg hat) (Kd.R_after (ok := (fun k_ => some k_ ≠ (.slice Ao25 t276.length co25 : Value).ownBlock)) (pT (Kd.R_mono HO285.out (fun _ hk => ⟨hk.1.2, hk.2⟩))) hg hat) (hb) (ho)
                     clear HO278 HO285 HB HO281; obtain ⟨HO278, HO285, HB, HO288⟩ := n_; clear ho hb hg hat
                     refine hK.out _ _ ⟨(cb HB hw274_0), (cb HB hw274_1), (cb HB hw274_2), (cb HB hw275_0), (cb HB hw275_1), (cb HB hw275_2), (cb HB hw282_0), (cb HB hw282_1), (cb HB hw282_2)⟩ (fun hHeld => ?_)
                     clear hK K
                     refine rN ?_
                     refine rP 21 (some 5) #[true, true, true, true, true, true, true, true, true, true, true, true, true, true, true, true, true, true, true, true, true, true] (any_of HT_.out (by kernel_rfl)) ?_
                     refine done_ (done_of HT_.out (by kernel_rfl)) ?_
                     have p289 : 0 ≤ (0 : Int) := (by omega)
                     have q289 : 0 < (l0.length : Int) := pD
                     (try clear hx274_0); (try clear hx274_1); (try clear hx274_2); (try clear hx275_0); (try clear hx275_1); (try clear hx275_2); (try clear hx282_0); (try clear hx282_1); (try clear hx282_2); (try clear hHeld)
                     obtain ⟨ad289, A289_1, c289_1, A289_2, c289_2, e289, hx289_0, hx289_1, hx289_2, hl289_1, hi289_1, hl289_2, hi289_2⟩ := at_T27 HR0.out 0 p289 q289
                     obtain rfl : ad263 = ad289 := (by injection e289)
                     have qi289 : (0 < l0.length) = True := eq_true (by omega)
                     (try rw [z0, zm, az] at hx289_0); (try rw [z0, zm, az] at hx289_1); (try rw [z0, zm, az] at hx289_2); replace hx289_0 := cb HB hx289_0; replace hx289_1 := cb HB hx289_1; replace hx289_2 := cb HB hx289_2; have HR289_1 := am hi289_1; have HC289_1 := am hl289_1; clear hi289_1 hl289_1; have HR289_2 := am hi289_2; have HC289_2 := am hl289_2; clear hi289_2 hl289_2; replace p289 := eq_true p289; replace q289 := eq_true q289
                     have p290 : 0 ≤ (x6_1 : Int) := pD
                     have q290 : x6_1 < (((rd_T27 l0 0).f1).length : Int) := pD
                     obtain ⟨ad290, A290_2, c290_2, e290, hx290_0, hx290_1, hx290_2, hl290_2, hi290_2⟩ := at_T34 HR289_1.out x6_1 p290 q290
                     cases e290; replace hx290_0 := cb HB hx290_0; replace hx290_1 := cb HB hx290_1; replace hx290_2 := cb HB hx290_2; have HR290_2 := am hi290_2; have HC290_2 := am hl290_2; clear hi290_2 hl290_2; replace p290 := eq_true p290; replace q290 := eq_true q290
                     try go_wp2_with (first | ((with_reducible refine gC (f := 126) rfl ?_); refine goesL_ (some 60) rfl rfl Try.func126 (by kernel_rfl) rfl #[.slice A290_2 ((rd_T34 ((rd_T27 l0 0).f1) x6_1).f2).length c290_2] rfl pA ?_; (with_reducible refine (spec_l3List.calls k1 _ _ ((rd_T34 ((rd_T27 l0 0).f1) x6_1).f2) t291 _ ?side1 ?side2 A20.out).mono ?_); (case side1 => exact pC (Kd.C_below HR290_2.out HB.out)); (case side2 => exact HC290_2.out); rintro e w29 ⟨v292, rfl, ho0, hb⟩; refine ⟨_, rfl, ?_⟩; have n_ := t5 (rE (pR HO278) (rB ho0) hb) (rE (pR HO285) (rB ho0) hb) (rE (pR HO288) (rB ho0) hb) (rL (rW (rW (rW ho0 (Kd.R_lt (pR HO278))) (Kd.R_lt (pR HO285))) (Kd.R_lt (pR HO288))) (bs_ pB)) (bz_ pB hb); clear HO278 HO285 HO288 HB; obtain ⟨HO278, HO285, HO288, HO293, HB⟩ := n_; (try clear hb); (try clear ho0); obtain ⟨Ao31, co31, eo31⟩ := rS HO293.out; subst eo31) | ((with_reducible refine gB (b := .append) (xs := #[.tmp 51, .tmp 60]) rfl ?_); at_builtin; refine Kd.R_append_rows (Kd.int .u8) (w0 := w) w.heap.size rfl (.tmp 51) (.tmp 60) 22 5 (.int .u8 0) 1 rfl Try.underlying22 info5 rfl (by decide) (by omega) v287 y286 t291 _ _ _ (fun k_ => some k_ ≠ (.slice Ao25 t276.length co25 : Value).ownBlock ∧ some k_ ≠ (.slice Ao28 t283.length co28 : Value).ownBlock ∧ some k_ ≠ (.slice Ao31 t291.length co31 : Value).ownBlock) (fun _ => False) rfl rfl ?aO ?aR (fun _ _ h => h) (fun _ h => h.elim) ?aF ?aB ?aS ?aL ?_; (case aR => exact pC (rr HO293.out).2.2); (case aB => exact pB); (case aF => exact (fun k_ hk => ⟨Kd.fresh' (Kd.R_lt (pR HO278)) k_ hk, Kd.fresh' (Kd.R_lt (pR HO285)) k_ hk, Kd.fresh' (Kd.R_lt (pR HO293)) k_ hk⟩)); (case aO => exact (pT (Kd.R_mono HO288.out (fun _ hk => ⟨hk.1.1, ⟨hk.1.2, hk.2⟩⟩)))); (case aS => exact (bs_ pB)); (case aL => have := LMc21.out; omega); intro v295 w30 ho hb hg hat; rw [← Ny294.out] at ho; have n_ := t5 (Kd.R_after (ok := (fun k_ => some k_ ≠ (.slice Ao28 t283.length co28 : Value).ownBlock ∧ some k_ ≠ (.slice Ao31 t291.length co31 : Value).ownBlock)) (pT (Kd.R_mono HO278.out (fun _ hk => ⟨⟨hk.1.1, hk.2⟩, hk.1.2⟩))) hg hat) (Kd.R_after (ok := (fun k_ => some k_ ≠ (.slice Ao25 t276.length co25 : Value).ownBlock ∧ some k_ ≠ (.slice Ao31 t291.length co31 : Value).ownBlock)) (pT (Kd.R_mono HO285.out (fun _ hk => ⟨⟨hk.1.1, hk.2⟩, hk.1.2⟩))) hg hat) (Kd.R_after (ok := (fun k_ => some k_ ≠ (.slice Ao25 t276.length co25 : Value).ownBlock ∧ some k_ ≠ (.slice Ao28 t283.length co28 : Value).ownBlock)) (pT (Kd.R_mono HO293.out (fun _ hk => ⟨⟨hk.1.1.2, hk.1.2⟩, hk.2⟩))) hg hat) (hb) (ho); clear HO278 HO285 HO293 HB HO288; obtain ⟨HO278, HO285, HO293, HB, HO296⟩ := n_; clear ho hb hg hat))
                     go_roundg k1
                     case measure => have := HK1.out; omega
                     case rel => exact ⟨(y294), (wrap64 (x6_1 + 1)), pF, H', ⟨by have := HK1.out; omega⟩, ⟨(pT (Kd.R_mono HO296.out (fun _ hk => trivial)))⟩, ⟨pB⟩⟩
                   · rw [if_neg c21] at H
                     exact absurd H (by simp)
                 · replace c19 := Bool.eq_false_iff.mpr c19
                   subst c19
                   have H1 : (if y286.length < 140737488355328 then (spec_l3Pack_in.l0 k1 l0 false (y286 ++ [0]) (wrap64 (x6_1 + 1))) else (none)) = some r := by rw [if_neg (show ¬ (false = true) by decide)] at H; exact H
                   clear H; have H := H1; clear H1
                   by_cases c32 : y286.length < 140737488355328
                   · rw [if_pos c32] at H
                     have LMc32 := am c32; clear c32
                     obtain ⟨y297, hy297⟩ : ∃ y_ : List Int, y_ = (y286 ++ [0]) := ⟨_, rfl⟩
                     replace H : (spec_l3Pack_in.l0 k1 l0 false y297 (wrap64 (x6_1 + 1))) = some r := by first | (rw [hy297]; with_reducible exact H) | (have H2_ := (Option.bind_some _ _).symm.trans H; rw [hy297]; with_reducible exact H2_) | (have H2_ := (Option.bind_some _ _).symm.trans H; with_reducible exact H2_) | with_reducible exact H | (rw [hy297]; exact H) | exact H
                     have Ny297 := am hy297; clear hy297
                     have H' := am H
                     clear H
                     have p273 : 0 ≤ (0 : Int) := (by omega)
                     have q273 : 0 < (l0.length : Int) := pD
                     obtain ⟨ad273, A273_1, c273_1, A273_2, c273_2, e273, hx273_0, hx273_1, hx273_2, hl273_1, hi273_1, hl273_2, hi273_2⟩ := at_T27 HR0.out 0 p273 q273
                     obtain rfl : ad263 = ad273 := (by injection e273)
                     have qi273 : (0 < l0.length) = True := eq_true (by omega)
                     (try rw [z0, zm, az] at hx273_0); (try rw [z0, zm, az] at hx273_1); (try rw [z0, zm, az] at hx273_2); replace hx273_0 := cb HB hx273_0; replace hx273_1 := cb HB hx273_1; replace hx273_2 := cb HB hx273_2; have HR273_1 := am hi273_1; have HC273_1 := am hl273_1; clear hi273_1 hl273_1; have HR273_2 := am hi273_2; have HC273_2 := am hl273_2; clear hi273_2 hl273_2; replace p273 := eq_true p273; replace q273 := eq_true q273
                     try go_wp2
                     have n_ := t2 (Kd.R_drew HO_5.out) (below_drew1 HB.out)
                     clear HO_5 HB; obtain ⟨HO_5, HB⟩ := n_
                     have p274 : 0 ≤ (0 : Int) := (by omega)
                     have q274 : 0 < (l0.length : Int) := pD
                     (try clear hx273_0); (try clear hx273_1); (try clear hx273_2); (try clear hHeld)
                     obtain ⟨ad274, A274_1, c274_1, A274_2, c274_2, e274, hx274_0, hx274_1, hx274_2, hl274_1, hi274_1, hl274_2, hi274_2⟩ := at_T27 HR0.out 0 p274 q274
                     have hw274_2 := hx274_2
                     (try rw [z0, zm, az] at hw274_2)
                     have hw274_1 := hx274_1
                     (try rw [z0, zm, az] at hw274_1)
                     have hw274_0 := hx274_0
                     (try rw [z0, zm, az] at hw274_0)
                     obtain rfl : ad263 = ad274 := (by injection e274)
                     have qi274 : (0 < l0.length) = True := eq_true (by omega)
                     (try rw [z0, zm, az] at hx274_0); (try rw [z0, zm, az] at hx274_1); (try rw [z0, zm, az] at hx274_2); replace hx274_0 := cb HB hx274_0; replace hx274_1 := cb HB hx274_1; replace hx274_2 := cb HB hx274_2; have HR274_1 := am hi274_1; have HC274_1 := am hl274_1; clear hi274_1 hl274_1; have HR274_2 := am hi274_2; have HC274_2 := am hl274_2; clear hi274_2 hl274_2; replace p274 := eq_true p274; replace q274 := eq_true q274
                     have p275 : 0 ≤ (x6_1 : Int) := pD
                     have q275 : x6_1 < (((rd_T27 l0 0).f1).length : Int) := pD
                     obtain ⟨ad275, A275_2, c275_2, e275, hx275_0, hx275_1, hx275_2, hl275_2, hi275_2⟩ := at_T34 HR274_1.out x6_1 p275 q275
                     have hw275_2 := hx275_2
                     have hw275_1 := hx275_1
                     have hw275_0 := hx275_0
                     cases e275; replace hx275_0 := cb HB hx275_0; replace hx275_1 := cb HB hx275_1; replace hx275_2 := cb HB hx275_2; have HR275_2 := am hi275_2; have HC275_2 := am hl275_2; clear hi275_2 hl275_2; replace p275 := eq_true p275; replace q275 := eq_true q275
                     have p282 : 0 ≤ (x6_1 : Int) := pD
                     have q282 : x6_1 < (((rd_T27 l0 0).f1).length : Int) := pD
                     obtain ⟨ad282, A282_2, c282_2, e282, hx282_0, hx282_1, hx282_2, hl282_2, hi282_2⟩ := at_T34 HR274_1.out x6_1 p282 q282
                     have hw282_2 := hx282_2
                     have hw282_1 := hx282_1
                     have hw282_0 := hx282_0
                     obtain rfl : ad275 = ad282 := (by injection e282)
                     replace hx282_0 := cb HB hx282_0; replace hx282_1 := cb HB hx282_1; replace hx282_2 := cb HB hx282_2; have HR282_2 := am hi282_2; have HC282_2 := am hl282_2; clear hi282_2 hl282_2; replace p282 := eq_true p282; replace q282 := eq_true q282
                     have ea_ := sj (hx275_2.symm.trans hx282_2)
                     injection ea_ with ea_ en_ ec_
                     subst ea_; subst ec_; clear en_
                     refine start_ (n := 22) (S := fun w' => w'.cell? ad263 = some (.int .i64 ((rd_T27 l0 0).f0)) ∧ w'.cell? ⟨ad263.block, ad263.off + 1, none⟩ = some (.slice (some ad275) ((rd_T27 l0 0).f1).length c274_1) ∧ w'.cell? ⟨ad263.block, ad263.off + 2, none⟩ = some (.slice A274_2 ((rd_T27 l0 0).f2).length c274_2) ∧ w'.cell? (ad275.add ((x6_1).toNat * 3)) = some (.int .i64 ((rd_T34 ((rd_T27 l0 0).f1) x6_1).f0)) ∧ w'.cell? ⟨(ad275.add ((x6_1).toNat * 3)).block, (ad275.add ((x6_1).toNat * 3)).off + 1, none⟩ = some (.int .i64 ((rd_T34 ((rd_T27 l0 0).f1) x6_1).f1)) ∧ w'.cell? ⟨(ad275.add ((x6_1).toNat * 3)).block, (ad275.add ((x6_1).toNat * 3)).off + 2, none⟩ = some (.slice A275_2 ((rd_T34 ((rd_T27 l0 0).f1) x6_1).f2).length c275_2) ∧ w'.cell? (ad275.add ((x6_1).toNat * 3)) = some (.int .i64 ((rd_T34 ((rd_T27 l0 0).f1) x6_1).f0)) ∧ w'.cell? ⟨(ad275.add ((x6_1).toNat * 3)).block, (ad275.add ((x6_1).toNat * 3)).off + 1, none⟩ = some (.int .i64 ((rd_T34 ((rd_T27 l0 0).f1) x6_1).f1)) ∧ w'.cell? ⟨(ad275.add ((x6_1).toNat * 3)).block, (ad275.add ((x6_1).toNat * 3)).off + 2, none⟩ = some (.slice A275_2 ((rd_T34 ((rd_T27 l0 0).f1) x6_1).f2).length c275_2)) (ds := []) #[false, false, false, false, false, false, false, false, false, false, false, false, false, false, false, false, false, false, false, false, false, false] (by kernel_rfl) rfl rfl ⟨(cb HB hw274_0), (cb HB hw274_1), (cb HB hw274_2), (cb HB hw275_0), (cb HB hw275_1), (cb HB hw275_2), (cb HB hw282_0), (cb HB hw282_1), (cb HB hw282_2)⟩ (fun hHeld => ?_); refine with_tabW spec_l3Pack_in.tab5 spec_l3Pack_in.bits5 (fun HT_ HW_ => ?_)
                     generalize wr.drew = w33 at HO_5 HB HR274_1 HR274_2 HR275_2 HR282_2 hx274_0 hx274_1 hx274_2 hx275_0 hx275_1 hx275_2 hx282_0 hx282_1 hx282_2 hHeld ⊢
                     refine rP 0 (some 29) #[true, false, false, false, false, false, false, false, false, false, false, false, false, false, false, false, false, false, false, false, false, false] (any_of HT_.out (by kernel_rfl)) ?_
                     refine rP 1 (some 30) #[true, true, false, false, false, false, false, false, false, false, false, false, false, false, false, false, false, false, false, false, false, false] (any_of HT_.out (by kernel_rfl)) ?_
                     refine rP 2 (some 31) #[true, true, true, false, false, false, false, false, false, false, false, false, false, false, false, false, false, false, false, false, false, false] (any_of HT_.out (by kernel_rfl)) ?_
                     refine rP 3 (some 32) #[true, true, true, true, false, false, false, false, false, false, false, false, false, false, false, false, false, false, false, false, false, false] (any_of HT_.out (by kernel_rfl)) ?_
                     refine rP 5 (some 34) #[true, true, true, true, false, true, false, false, false, false, false, false, false, false, false, false, false, false, false, false, false, false] (any_of HT_.out (by kernel_rfl)) ?_
                     refine rP 11 (some 40) #[true, true, true, true, false, true, false, false, false, false, false, true, false, false, false, false, false, false, false, false, false, false] (any_of HT_.out (by kernel_rfl)) ?_
                     refine rP 12 (some 41) #[true, true, true, true, false, true, false, false, false, false, false, true, true, false, false, false, false, false, false, false, false, false] (any_of HT_.out (by kernel_rfl)) ?_
                     refine rP 13 (some 42) #[true, true, true, true, false, true, false, false, false, false, false, true, true, true, false, false, false, false, false, false, false, false] (any_of HT_.out (by kernel_rfl)) ?_
                     refine rP 15 (some 44) #[true, true, true, true, false, true, false, false, false, false, false, true, true, true, false, true, false, false, false, false, false, false] (any_of HT_.out (by kernel_rfl)) ?_
                     refine rT 4 (some 33) #[true, true, true, true, true, true, false, false, false, false, false, true, true, true, false, true, false, false, false, false, false, false] (take_ofW HT_.out HW_.out (by kernel_rfl)) hHeld ?_
                     refine rP 6 (some 35) #[true, true, true, true, true, true, true, false, false, false, false, true, true, true, false, true, false, false, false, false, false, false] (any_of HT_.out (by kernel_rfl)) ?_
                     refine rP 7 (some 36) #[true, true, true, true, true, true, true, true, false, false, false, true, true, true, false, true, false, false, false, false, false, false] (any_of HT_.out (by kernel_rfl)) ?_
                     refine rT 8 (some 37) #[true, true, true, true, true, true, true, true, true, false, false, true, true, true, false, true, false, false, false, false, false, false] (take_ofW HT_.out HW_.out (by kernel_rfl)) hHeld ?_
                     refine rT 14 (some 43) #[true, true, true, true, true, true, true, true, true, false, false, true, true, true, true, true, false, false, false, false, false, false] (take_ofW HT_.out HW_.out (by kernel_rfl)) hHeld ?_
                     refine rP 16 (some 45) #[true, true, true, true, true, true, true, true, true, false, false, true, true, true, true, true, true, false, false, false, false, false] (any_of HT_.out (by kernel_rfl)) ?_
                     refine rP 17 (some 46) #[true, true, true, true, true, true, true, true, true, false, false, true, true, true, true, true, true, true, false, false, false, false] (any_of HT_.out (by kernel_rfl)) ?_
                     refine rT 18 (some 47) #[true, true, true, true, true, true, true, true, true, false, false, true, true, true, true, true, true, true, true, false, false, false] (take_ofW HT_.out HW_.out (by kernel_rfl)) hHeld ?_
                     refine one_ (i := 9) (N := some 38) #[true, true, true, true, true, true, true, true, true, true, false, true, true, true, true, true, true, true, true, false, false, false] rfl rfl (one_of HT_.out (by kernel_rfl)) (by decide) (fun K hK => ?_)
                     refine goes_ Try.func125 (by kernel_rfl) rfl #[.int .i64 ((rd_T34 ((rd_T27 l0 0).f1) x6_1).f0)] (by rfl) rfl rfl pA ?_
                     with_reducible refine (spec_l3Big.calls ((rd_T34 ((rd_T27 l0 0).f1) x6_1).f0) t276 _ A15.out).mono ?_
                     rintro e w34 ⟨v277, rfl, ho0, hb⟩
                     refine ⟨_, rfl, ?_⟩
                     have n_ := t3 (rE (pR HO_5) (rB ho0) hb) (rL (rW ho0 (Kd.R_lt (pR HO_5))) (bs_ pB)) (bz_ pB hb)
                     clear HO_5 HB; obtain ⟨HO_5, HO278, HB⟩ := n_; (try clear hb); (try clear hb2); (try clear hk); (try clear hi); (try clear ho0)
                     obtain ⟨Ao36, co36, eo36⟩ := rS HO278.out
                     (first | subst eo36 | (injection eo36 with f1_ f2_ f3_; have f4_ := f1_.symm; have f5_ := f3_.symm; clear f1_ f2_ f3_; subst f4_; subst f5_))
                     refine hK.out _ _ ⟨(cb HB hw274_0), (cb HB hw274_1), (cb HB hw274_2), (cb HB hw275_0), (cb HB hw275_1), (cb HB hw275_2), (cb HB hw282_0), (cb HB hw282_1), (cb HB hw282_2)⟩ (fun hHeld => ?_)
                     clear hK K
                     refine rN ?_
                     refine one_ (i := 10) (N := some 39) #[true, true, true, true, true, true, true, true, true, true, true, true, true, true, true, true, true, true, true, false, false, false] rfl rfl (one_of HT_.out (by kernel_rfl)) (by decide) (fun K hK => ?_)
                     refine Kd.R_append_rows_step (Kd.int .u8) (w0 := w) w.heap.size (by rfl) (.tmp 29) (.tmp 38) 22 5 (.int .u8 0) 1 rfl Try.underlying22 info5 rfl (by decide) (by omega) u5 x5_1 t276 _ _ _ (fun k_ => some k_ ≠ (.slice Ao36 t276.length co36 : Value).ownBlock) (fun _ => False) rfl rfl ?aO ?aR (fun _ _ h => h) (fun _ h => h.elim) ?aF ?aB ?aS ?aL ?_
                     (case aR => exact pC (rr HO278.out).2.2)
                     (case aB => exact pB)
                     (case aF => exact (fun k_ hk => Kd.fresh' (Kd.R_lt (pR HO278)) k_ hk))
                     (case aO => exact (pT (Kd.R_mono HO_5.out (fun _ hk => hk.2))))
                     (case aS => exact (bs_ pB))
                     (case aL => have := LMc16.out; omega)
                     intro v280 w35 ho hb hg hat
                     rw [← Ny279.out] at ho
                     have n_ := t3 (Kd.R_after (ok := (fun _ => True)) (pR HO278) hg hat) (hb) (ho)
                     clear HO278 HB HO_5; obtain ⟨HO278, HB, HO281⟩ := n_; clear ho hb hg hat
                     refine hK.out _ _ ⟨(cb HB hw274_0), (cb HB hw274_1), (cb HB hw274_2), (cb HB hw275_0), (cb HB hw275_1), (cb HB hw275_2), (cb HB hw282_0), (cb HB hw282_1), (cb HB hw282_2)⟩ (fun hHeld => ?_)
                     clear hK K
                     refine rN ?_
                     refine one_ (i := 19) (N := some 48) #[true, true, true, true, true, true, true, true, true, true, true, true, true, true, true, true, true, true, true, true, false, false] rfl rfl (one_of HT_.out (by kernel_rfl)) (by decide) (fun K hK => ?_)
                     refine goes_ Try.func80 (by kernel_rfl) rfl #[.int .i64 ((rd_T34 ((rd_T27 l0 0).f1) x6_1).f1)] (by rfl) rfl rfl pA ?_
                     with_reducible refine (spec_l3Put.calls ((rd_T34 ((rd_T27 l0 0).f1) x6_1).f1) t283 _ A17.out).mono ?_
                     rintro e w37 ⟨v284, rfl, ho0, hb⟩
                     refine ⟨_, rfl, ?_⟩
                     have n_ := t4 (rE (pR HO278) (rB ho0) hb) (rE (pR HO281) (rB ho0) hb) (rL (rW (rW ho0 (Kd.R_lt (pR HO278))) (Kd.R_lt (pR HO281))) (bs_ pB)) (bz_ pB hb)
                     clear HO278 HO281 HB; obtain ⟨HO278, HO281, HO285, HB⟩ := n_; (try clear hb); (try clear hb2); (try clear hk); (try clear hi); (try clear ho0)
                     obtain ⟨Ao39, co39, eo39⟩ := rS HO285.out
                     (first | subst eo39 | (injection eo39 with f1_ f2_ f3_; have f4_ := f1_.symm; have f5_ := f3_.symm; clear f1_ f2_ f3_; subst f4_; subst f5_))
                     refine hK.out _ _ ⟨(cb HB hw274_0), (cb HB hw274_1), (cb HB hw274_2), (cb HB hw275_0), (cb HB hw275_1), (cb HB hw275_2), (cb HB hw282_0), (cb HB hw282_1), (cb HB hw282_2)⟩ (fun hHeld => ?_)
                     clear hK K
                     refine rN ?_
                     refine one_ (i := 20) (N := some 49) #[true, true, true, true, true, true, true, true, true, true, true, true, true, true, true, true, true, true, true, true, true, false] rfl rfl (one_of HT_.out (by kernel_rfl)) (by decide) (fun K hK => ?_)
                     refine Kd.R_append_rows_step (Kd.int .u8) (w0 := w) w.heap.size (by rfl) (.tmp 39) (.tmp 48) 22 5 (.int .u8 0) 1 rfl Try.underlying22 info5 rfl (by decide) (by omega) v280 y279 t283 _ _ _ (fun k_ => some k_ ≠ (.slice Ao36 t276.length co36 : Value).ownBlock ∧ some k_ ≠ (.slice Ao39 t283.length co39 : Value).ownBlock) (fun _ => False) rfl rfl ?aO ?aR (fun _ _ h => h) (fun _ h => h.elim) ?aF ?aB ?aS ?aL ?_
                     (case aR => exact pC (rr HO285.out).2.2)
                     (case aB => exact pB)
                     (case aF => exact (fun k_ hk => ⟨Kd.fresh' (Kd.R_lt (pR HO278)) k_ hk, Kd.fresh' (Kd.R_lt (pR HO285)) k_ hk⟩))
                     (case aO => exact (pR HO281))
                     (case aS => exact (bs_ pB))
                     (case aL => have := LMc18.out; omega)
                     intro v287 w38 ho hb hg hat
                     rw [← Ny286.out] at ho
                     have n_ := t4 (Kd.R_after (ok := (fun k_ => some k_ ≠ (.slice Ao39 t283.length co39 : Value).ownBlock)) (pT (Kd.R_mono HO278.out (fun _ hk => ⟨hk.2, hk.1.2⟩))) hg hat) (Kd.R_after (ok := (fun k_ => some k_ ≠ (.slice Ao36 t276.length co36 : Value).ownBlock)) (pT (Kd.R_mono HO285.out (fun _ hk => ⟨hk.1.2, hk.2⟩))) hg hat) (hb) (ho)
                     clear HO278 HO285 HB HO281; obtain ⟨HO278, HO285, HB, HO288⟩ := n_; clear ho hb hg hat
                     refine hK.out _ _ ⟨(cb HB hw274_0), (cb HB hw274_1), (cb HB hw274_2), (cb HB hw275_0), (cb HB hw275_1), (cb HB hw275_2), (cb HB hw282_0), (cb HB hw282_1), (cb HB hw282_2)⟩ (fun hHeld => ?_)
                     clear hK K
                     refine rN ?_
                     refine rP 21 (some 5) #[true, true, true, true, true, true, true, true, true, true, true, true, true, true, true, true, true, true, true, true, true, true] (any_of HT_.out (by kernel_rfl)) ?_
                     refine done_ (done_of HT_.out (by kernel_rfl)) ?_
                     try go_wp2_with (first | ((with_reducible refine gB (b := .append) (xs := #[.tmp 62, .tmp 63]) rfl ?_); at_builtin; refine Kd.R_append (Kd.int .u8) (w0 := w) w.heap.size rfl (.tmp 62) (.tmp 63) 22 5 (.int .u8 0) 1 rfl Try.underlying22 info5 rfl (by decide) (by omega) v287 y286 0 [.int .u8 0] (fun k_ => some k_ ≠ (.slice Ao36 t276.length co36 : Value).ownBlock ∧ some k_ ≠ (.slice Ao39 t283.length co39 : Value).ownBlock) (fun _ => False) rfl rfl ?aP (fun _ hk => hk.elim) ?aF ?aO ?aB ?aS ?aL ?_; (case aP => exact rfl); (case aB => exact pB); (case aF => exact (fun k_ hk => ⟨Kd.fresh' (Kd.R_lt (pR HO278)) k_ hk, Kd.fresh' (Kd.R_lt (pR HO285)) k_ hk⟩)); (case aO => exact (pR HO288)); (case aS => exact (bs_ pB)); (case aL => have := LMc32.out; omega); intro v298 w40 ho hb hg hat; rw [← Ny297.out] at ho; have n_ := t4 (Kd.R_after (ok := (fun k_ => some k_ ≠ (.slice Ao39 t283.length co39 : Value).ownBlock)) (pR HO278) hg hat) (Kd.R_after (ok := (fun k_ => some k_ ≠ (.slice Ao36 t276.length co36 : Value).ownBlock)) (pR HO285) hg hat) (hb) (ho); clear HO278 HO285 HB HO288; obtain ⟨HO278, HO285, HB, HO299⟩ := n_; clear ho hb hg hat))
                     go_roundg k1
                     case measure => have := HK1.out; omega
                     case rel => exact ⟨(y297), (wrap64 (x6_1 + 1)), pF, H', ⟨by have := HK1.out; omega⟩, ⟨(pT (Kd.R_mono HO299.out (fun _ hk => trivial)))⟩, ⟨pB⟩⟩
                   · rw [if_neg c32] at H
                     exact absurd H (by simp)
               · rw [if_neg c18] at H
                 exact absurd H (by simp)
             · rw [if_neg c16] at H
               exact absurd H (by simp)
           · rw [if_neg c14] at H
             exact absurd H (by simp)
         · rw [if_neg c13] at H
           have c13b0 : decide (x6_1 < (((rd_T27 l0 0).f1).length : Int)) = false := decide_eq_false c13
           clear c13
           obtain ⟨t301, A410, H⟩ := bO H
           replace H : (if x5_1.length + t301.length < 140737488355328 then (spec_l3Pack_in.l1 k1 l0 (x5_1 ++ t301) 0) else (none)) = some r := H
           have A41 := am A410; clear A410
           by_cases c42 : x5_1.length + t301.length < 140737488355328
           · rw [if_pos c42] at H
             have LMc42 := am c42; clear c42
             obtain ⟨y304, hy304⟩ : ∃ y_ : List Int, y_ = (x5_1 ++ t301) := ⟨_, rfl⟩
             replace H : (spec_l3Pack_in.l1 k1 l0 y304 0) = some r := by first | (rw [hy304]; with_reducible exact H) | (have H2_ := (Option.bind_some _ _).symm.trans H; rw [hy304]; with_reducible exact H2_) | (have H2_ := (Option.bind_some _ _).symm.trans H; with_reducible exact H2_) | with_reducible exact H | (rw [hy304]; exact H) | exact H
             have Ny304 := am hy304; clear hy304
             have H' := am H
             clear H
             have p273 : 0 ≤ (0 : Int) := (by omega)
             have q273 : 0 < (l0.length : Int) := pD
             obtain ⟨ad273, A273_1, c273_1, A273_2, c273_2, e273, hx273_0, hx273_1, hx273_2, hl273_1, hi273_1, hl273_2, hi273_2⟩ := at_T27 HR0.out 0 p273 q273
             obtain rfl : ad263 = ad273 := (by injection e273)
             have qi273 : (0 < l0.length) = True := eq_true (by omega)
             (try rw [z0, zm, az] at hx273_0); (try rw [z0, zm, az] at hx273_1); (try rw [z0, zm, az] at hx273_2); replace hx273_0 := cb HB hx273_0; replace hx273_1 := cb HB hx273_1; replace hx273_2 := cb HB hx273_2; have HR273_1 := am hi273_1; have HC273_1 := am hl273_1; clear hi273_1 hl273_1; have HR273_2 := am hi273_2; have HC273_2 := am hl273_2; clear hi273_2 hl273_2; replace p273 := eq_true p273; replace q273 := eq_true q273
             have p300 : 0 ≤ (0 : Int) := (by omega)
             have q300 : 0 < (l0.length : Int) := pD
             obtain ⟨ad300, A300_1, c300_1, A300_2, c300_2, e300, hx300_0, hx300_1, hx300_2, hl300_1, hi300_1, hl300_2, hi300_2⟩ := at_T27 HR0.out 0 p300 q300
             obtain rfl : ad263 = ad300 := (by injection e300)
             have qi300 : (0 < l0.length) = True := eq_true (by omega)
             (try rw [z0, zm, az] at hx300_0); (try rw [z0, zm, az] at hx300_1); (try rw [z0, zm, az] at hx300_2); replace hx300_0 := cb HB hx300_0; replace hx300_1 := cb HB hx300_1; replace hx300_2 := cb HB hx300_2; have HR300_1 := am hi300_1; have HC300_1 := am hl300_1; clear hi300_1 hl300_1; have HR300_2 := am hi300_2; have HC300_2 := am hl300_2; clear hi300_2 hl300_2; replace p300 := eq_true p300; replace q300 := eq_true q300
             have ea_ := sj (hx273_1.symm.trans hx300_1)
             injection ea_ with ea_ en_ ec_
             subst ea_; subst ec_; clear en_
             have ea_ := sj (hx273_2.symm.trans hx300_2)
             injection ea_ with ea_ en_ ec_
             subst ea_; subst ec_; clear en_
             go_wp2_with (first | ((with_reducible refine gC (f := 80) rfl ?_); refine goesL_ (some 71) rfl rfl Try.func80 (by kernel_rfl) rfl #[.int .i64 (((rd_T27 l0 0).f2).length : Int)] rfl pA ?_; (with_reducible refine (spec_l3Put.calls (((rd_T27 l0 0).f2).length : Int) t301 _ A41.out).mono ?_); rintro e w43 ⟨v302, rfl, ho0, hb⟩; refine ⟨_, rfl, ?_⟩; have n_ := t3 (rE (pR HO_5) (rB ho0) hb) (rL (rW ho0 (Kd.R_lt (pR HO_5))) (bs_ pB)) (bz_ pB hb); clear HO_5 HB; obtain ⟨HO_5, HO303, HB⟩ := n_; (try clear hb); (try clear ho0); obtain ⟨Ao45, co45, eo45⟩ := rS HO303.out; subst eo45) | ((with_reducible refine gB (b := .append) (xs := #[.tmp 65, .tmp 71]) rfl ?_); at_builtin; refine Kd.R_append_rows (Kd.int .u8) (w0 := w) w.heap.size rfl (.tmp 65) (.tmp 71) 22 5 (.int .u8 0) 1 rfl Try.underlying22 info5 rfl (by decide) (by omega) u5 x5_1 t301 _ _ _ (fun k_ => some k_ ≠ (.slice Ao45 t301.length co45 : Value).ownBlock) (fun _ => False) rfl rfl ?aO ?aR (fun _ _ h => h) (fun _ h => h.elim) ?aF ?aB ?aS ?aL ?_; (case aR => exact pC (rr HO303.out).2.2); (case aB => exact pB); (case aF => exact (fun k_ hk => Kd.fresh' (Kd.R_lt (pR HO303)) k_ hk)); (case aO => exact (pT (Kd.R_mono HO_5.out (fun _ hk => hk.2)))); (case aS => exact (bs_ pB)); (case aL => have := LMc42.out; omega); intro v305 w44 ho hb hg hat; rw [← Ny304.out] at ho; have n_ := t3 (Kd.R_after (ok := (fun _ => True)) (pR HO303) hg hat) (hb) (ho); clear HO303 HB HO_5; obtain ⟨HO303, HB, HO306⟩ := n_; clear ho hb hg hat))
             go_loopg [5, 7] k1 (fun kq v5 v7 w' => ∃ (x5_2 : List Int) (x7_2 : Int), v7 = .int .i64 x7_2 ∧ Aside0 (spec_l3Pack_in.l1 kq l0 x5_2 x7_2 = some r) ∧ Aside0 (kq ≤ k1) ∧ Aside0 (Kd.R (Kd.int .u8) 5 w' w.heap.size (fun _ => True) v5 x5_2) ∧ Aside0 (Below w.heap.size w w'))
             case atStart => exact ⟨(y304), (0), pF, H', ⟨Nat.le_refl _⟩, ⟨(pT (Kd.R_mono HO306.out (fun _ hk => trivial)))⟩, ⟨pB⟩⟩
             case round =>
              clear H'
              (try clear c3); (try clear c12); (try clear c13); (try clear c13b0); (try clear c42); (try clear hx273_0); (try clear hx273_1); (try clear hx273_2); (try clear hx300_0); (try clear hx300_1); (try clear hx300_2); (try clear p273); (try clear p300); (try clear q273); (try clear q300)
              obtain ⟨x5_2, x7_2, rfl, HA, HK2, HO_5, HB⟩ := hrel
              cases gk with
              | zero => exact absurd HA.out (by simp [spec_l3Pack_in.l1])
              | succ k2 =>
               have H := HA.out
               clear HA
               simp only [spec_l3Pack_in.l1] at H
               by_cases c46 : 0 < (l0.length : Int)
               · rw [if_pos c46] at H
                 have c46b0 : decide (0 < (l0.length : Int)) = true := dt c46
                 have c46b1 : decide (0 < l0.length) = true := dt (by omega)
                 clear c46
                 by_cases c47 : x7_2 < (((rd_T27 l0 0).f2).length : Int)
                 · rw [if_pos c47] at H
                   have c47b0 : decide (x7_2 < (((rd_T27 l0 0).f2).length : Int)) = true := dt c47
                   clear c47
                   by_cases c48 : 0 ≤ x7_2
                   · rw [if_pos c48] at H
                     have c48b0 : decide (0 ≤ x7_2) = true := dt c48
                     clear c48
                     obtain ⟨t310, A490, H⟩ := bO H
                     replace H : (if x5_2.length + t310.length < 140737488355328 then ((some (x5_2 ++ t310 : List Int)).bind fun y313 => ((spec_l3List.f k2 ((rd_T86 ((rd_T27 l0 0).f2) x7_2).f1)).bind fun t317 => (if y313.length + t317.length < 140737488355328 then (spec_l3Pack_in.l1 k2 l0 (y313 ++ t317) (wrap64 (x7_2 + 1))) else (none)))) else (none)) = some r := H
                     have A49 := am A490; clear A490
                     by_cases c50 : x5_2.length + t310.length < 140737488355328
                     · rw [if_pos c50] at H
                       have LMc50 := am c50; clear c50
                       obtain ⟨y313, hy313⟩ : ∃ y_ : List Int, y_ = (x5_2 ++ t310) := ⟨_, rfl⟩
                       replace H : ((spec_l3List.f k2 ((rd_T86 ((rd_T27 l0 0).f2) x7_2).f1)).bind fun t317 => (if y313.length + t317.length < 140737488355328 then (spec_l3Pack_in.l1 k2 l0 (y313 ++ t317) (wrap64 (x7_2 + 1))) else (none))) = some r := by first | (rw [hy313]; with_reducible exact H) | (have H2_ := (Option.bind_some _ _).symm.trans H; rw [hy313]; with_reducible exact H2_) | (have H2_ := (Option.bind_some _ _).symm.trans H; with_reducible exact H2_) | with_reducible exact H | (rw [hy313]; exact H) | exact H
                       have Ny313 := am hy313; clear hy313
                       obtain ⟨t317, A510, H⟩ := bO H
                       replace H : (if y313.length + t317.length < 140737488355328 then (spec_l3Pack_in.l1 k2 l0 (y313 ++ t317) (wrap64 (x7_2 + 1))) else (none)) = some r := H
                       have A51 := am A510; clear A510
                       by_cases c52 : y313.length + t317.length < 140737488355328
                       · rw [if_pos c52] at H
                         have LMc52 := am c52; clear c52
                         obtain ⟨y320, hy320⟩ : ∃ y_ : List Int, y_ = (y313 ++ t317) := ⟨_, rfl⟩
                         replace H : (spec_l3Pack_in.l1 k2 l0 y320 (wrap64 (x7_2 + 1))) = some r := by first | (rw [hy320]; with_reducible exact H) | (have H2_ := (Option.bind_some _ _).symm.trans H; rw [hy320]; with_reducible exact H2_) | (have H2_ := (Option.bind_some _ _).symm.trans H; with_reducible exact H2_) | with_reducible exact H | (rw [hy320]; exact H) | exact H
                         have Ny320 := am hy320; clear hy320
                         have H' := am H
                         clear H
                         have p307 : 0 ≤ (0 : Int) := (by omega)
                         have q307 : 0 < (l0.length : Int) := pD
                         (try clear hx300_0); (try clear hx300_1); (try clear hx300_2); (try clear hHeld)
                         obtain ⟨ad307, A307_1, c307_1, A307_2, c307_2, e307, hx307_0, hx307_1, hx307_2, hl307_1, hi307_1, hl307_2, hi307_2⟩ := at_T27 HR0.out 0 p307 q307
                         obtain rfl : ad263 = ad307 := (by injection e307)
                         have qi307 : (0 < l0.length) = True := eq_true (by omega)
                         (try rw [z0, zm, az] at hx307_0); (try rw [z0, zm, az] at hx307_1); (try rw [z0, zm, az] at hx307_2); replace hx307_0 := cb HB hx307_0; replace hx307_1 := cb HB hx307_1; replace hx307_2 := cb HB hx307_2; have HR307_1 := am hi307_1; have HC307_1 := am hl307_1; clear hi307_1 hl307_1; have HR307_2 := am hi307_2; have HC307_2 := am hl307_2; clear hi307_2 hl307_2; replace p307 := eq_true p307; replace q307 := eq_true q307
                         try go_wp2
                         have n_ := t2 (Kd.R_drew HO_5.out) (below_drew1 HB.out)
                         clear HO_5 HB; obtain ⟨HO_5, HB⟩ := n_
                         have p308 : 0 ≤ (0 : Int) := (by omega)
                         have q308 : 0 < (l0.length : Int) := pD
                         (try clear hx307_0); (try clear hx307_1); (try clear hx307_2); (try clear hHeld)
                         obtain ⟨ad308, A308_1, c308_1, A308_2, c308_2, e308, hx308_0, hx308_1, hx308_2, hl308_1, hi308_1, hl308_2, hi308_2⟩ := at_T27 HR0.out 0 p308 q308
                         have hw308_2 := hx308_2
                         (try rw [z0, zm, az] at hw308_2)
                         have hw308_1 := hx308_1
                         (try rw [z0, zm, az] at hw308_1)
                         have hw308_0 := hx308_0
                         (try rw [z0, zm, az] at hw308_0)
                         obtain rfl : ad263 = ad308 := (by injection e308)
                         have qi308 : (0 < l0.length) = True := eq_true (by omega)
                         (try rw [z0, zm, az] at hx308_0); (try rw [z0, zm, az] at hx308_1); (try rw [z0, zm, az] at hx308_2); replace hx308_0 := cb HB hx308_0; replace hx308_1 := cb HB hx308_1; replace hx308_2 := cb HB hx308_2; have HR308_1 := am hi308_1; have HC308_1 := am hl308_1; clear hi308_1 hl308_1; have HR308_2 := am hi308_2; have HC308_2 := am hl308_2; clear hi308_2 hl308_2; replace p308 := eq_true p308; replace q308 := eq_true q308
                         have p309 : 0 ≤ (x7_2 : Int) := pD
                         have q309 : x7_2 < (((rd_T27 l0 0).f2).length : Int) := pD
                         obtain ⟨ad309, A309_1, c309_1, e309, hx309_0, hx309_1, hl309_1, hi309_1⟩ := at_T86 HR308_2.out x7_2 p309 q309
                         have hw309_1 := hx309_1
                         have hw309_0 := hx309_0
                         cases e309; replace hx309_0 := cb HB hx309_0; replace hx309_1 := cb HB hx309_1; have HR309_1 := am hi309_1; have HC309_1 := am hl309_1; clear hi309_1 hl309_1; replace p309 := eq_true p309; replace q309 := eq_true q309
                         have p316 : 0 ≤ (x7_2 : Int) := pD
                         have q316 : x7_2 < (((rd_T27 l0 0).f2).length : Int) := pD
                         obtain ⟨ad316, A316_1, c316_1, e316, hx316_0, hx316_1, hl316_1, hi316_1⟩ := at_T86 HR308_2.out x7_2 p316 q316
                         have hw316_1 := hx316_1
                         have hw316_0 := hx316_0
                         obtain rfl : ad309 = ad316 := (by injection e316)
                         replace hx316_0 := cb HB hx316_0; replace hx316_1 := cb HB hx316_1; have HR316_1 := am hi316_1; have HC316_1 := am hl316_1; clear hi316_1 hl316_1; replace p316 := eq_true p316; replace q316 := eq_true q316
                         have ea_ := sj (hx309_1.symm.trans hx316_1)
                         injection ea_ with ea_ en_ ec_
                         subst ea_; subst ec_; clear en_
                         refine start_ (n := 22) (S := fun w' => w'.cell? ad263 = some (.int .i64 ((rd_T27 l0 0).f0)) ∧ w'.cell? ⟨ad263.block, ad263.off + 1, none⟩ = some (.slice A308_1 ((rd_T27 l0 0).f1).length c308_1) ∧ w'.cell? ⟨ad263.block, ad263.off + 2, none⟩ = some (.slice (some ad309) ((rd_T27 l0 0).f2).length c308_2) ∧ w'.cell? (ad309.add ((x7_2).toNat * 2)) = some (.int .i64 ((rd_T86 ((rd_T27 l0 0).f2) x7_2).f0)) ∧ w'.cell? ⟨(ad309.add ((x7_2).toNat * 2)).block, (ad309.add ((x7_2).toNat * 2)).off + 1, none⟩ = some (.slice A309_1 ((rd_T86 ((rd_T27 l0 0).f2) x7_2).f1).length c309_1) ∧ w'.cell? (ad309.add ((x7_2).toNat * 2)) = some (.int .i64 ((rd_T86 ((rd_T27 l0 0).f2) x7_2).f0)) ∧ w'.cell? ⟨(ad309.add ((x7_2).toNat * 2)).block, (ad309.add ((x7_2).toNat * 2)).off + 1, none⟩ = some (.slice A309_1 ((rd_T86 ((rd_T27 l0 0).f2) x7_2).f1).length c309_1)) (ds := []) #[false, false, false, false, false, false, false, false, false, false, false, false, false, false, false, false, false, false, false, false, false, false] (by kernel_rfl) rfl rfl ⟨(cb HB hw308_0), (cb HB hw308_1), (cb HB hw308_2), (cb HB hw309_0), (cb HB hw309_1), (cb HB hw316_0), (cb HB hw316_1)⟩ (fun hHeld => ?_); refine with_tabW spec_l3Pack_in.tab13 spec_l3Pack_in.bits13 (fun HT_ HW_ => ?_)
                         generalize wr.drew = w53 at HO_5 HB HR308_1 HR308_2 HR309_1 HR316_1 hx308_0 hx308_1 hx308_2 hx309_0 hx309_1 hx316_0 hx316_1 hHeld ⊢
                         refine rP 0 (some 82) #[true, false, false, false, false, false, false, false, false, false, false, false, false, false, false, false, false, false, false, false, false, false] (any_of HT_.out (by kernel_rfl)) ?_
                         refine rP 1 (some 83) #[true, true, false, false, false, false, false, false, false, false, false, false, false, false, false, false, false, false, false, false, false, false] (any_of HT_.out (by kernel_rfl)) ?_
                         refine rP 2 (some 84) #[true, true, true, false, false, false, false, false, false, false, false, false, false, false, false, false, false, false, false, false, false, false] (any_of HT_.out (by kernel_rfl)) ?_
                         refine rP 3 (some 85) #[true, true, true, true, false, false, false, false, false, false, false, false, false, false, false, false, false, false, false, false, false, false] (any_of HT_.out (by kernel_rfl)) ?_
                         refine rP 5 (some 87) #[true, true, true, true, false, true, false, false, false, false, false, false, false, false, false, false, false, false, false, false, false, false] (any_of HT_.out (by kernel_rfl)) ?_
                         refine rP 11 (some 93) #[true, true, true, true, false, true, false, false, false, false, false, true, false, false, false, false, false, false, false, false, false, false] (any_of HT_.out (by kernel_rfl)) ?_
                         refine rP 12 (some 94) #[true, true, true, true, false, true, false, false, false, false, false, true, true, false, false, false, false, false, false, false, false, false] (any_of HT_.out (by kernel_rfl)) ?_
                         refine rP 13 (some 95) #[true, true, true, true, false, true, false, false, false, false, false, true, true, true, false, false, false, false, false, false, false, false] (any_of HT_.out (by kernel_rfl)) ?_
                         refine rP 15 (some 97) #[true, true, true, true, false, true, false, false, false, false, false, true, true, true, false, true, false, false, false, false, false, false] (any_of HT_.out (by kernel_rfl)) ?_
                         refine rT 4 (some 86) #[true, true, true, true, true, true, false, false, false, false, false, true, true, true, false, true, false, false, false, false, false, false] (take_ofW HT_.out HW_.out (by kernel_rfl)) hHeld ?_
                         refine rP 6 (some 88) #[true, true, true, true, true, true, true, false, false, false, false, true, true, true, false, true, false, false, false, false, false, false] (any_of HT_.out (by kernel_rfl)) ?_
                         refine rP 7 (some 89) #[true, true, true, true, true, true, true, true, false, false, false, true, true, true, false, true, false, false, false, false, false, false] (any_of HT_.out (by kernel_rfl)) ?_
                         refine rT 8 (some 90) #[true, true, true, true, true, true, true, true, true, false, false, true, true, true, false, true, false, false, false, false, false, false] (take_ofW HT_.out HW_.out (by kernel_rfl)) hHeld ?_
                         refine rT 14 (some 96) #[true, true, true, true, true, true, true, true, true, false, false, true, true, true, true, true, false, false, false, false, false, false] (take_ofW HT_.out HW_.out (by kernel_rfl)) hHeld ?_
                         refine rP 16 (some 98) #[true, true, true, true, true, true, true, true, true, false, false, true, true, true, true, true, true, false, false, false, false, false] (any_of HT_.out (by kernel_rfl)) ?_
                         refine rP 17 (some 99) #[true, true, true, true, true, true, true, true, true, false, false, true, true, true, true, true, true, true, false, false, false, false] (any_of HT_.out (by kernel_rfl)) ?_
                         refine rT 18 (some 100) #[true, true, true, true, true, true, true, true, true, false, false, true, true, true, true, true, true, true, true, false, false, false] (take_ofW HT_.out HW_.out (by kernel_rfl)) hHeld ?_
                         refine one_ (i := 9) (N := some 91) #[true, true, true, true, true, true, true, true, true, true, false, true, true, true, true, true, true, true, true, false, false, false] rfl rfl (one_of HT_.out (by kernel_rfl)) (by decide) (fun K hK => ?_)
                         refine goes_ Try.func125 (by kernel_rfl) rfl #[.int .i64 ((rd_T86 ((rd_T27 l0 0).f2) x7_2).f0)] (by rfl) rfl rfl pA ?_
                         with_reducible refine (spec_l3Big.calls ((rd_T86 ((rd_T27 l0 0).f2) x7_2).f0) t310 _ A49.out).mono ?_
                         rintro e w54 ⟨v311, rfl, ho0, hb⟩
                         refine ⟨_, rfl, ?_⟩
                         have n_ := t3 (rE (pR HO_5) (rB ho0) hb) (rL (rW ho0 (Kd.R_lt (pR HO_5))) (bs_ pB)) (bz_ pB hb)
                         clear HO_5 HB; obtain ⟨HO_5, HO312, HB⟩ := n_; (try clear hb); (try clear hb2); (try clear hk); (try clear hi); (try clear ho0)
                         obtain ⟨Ao56, co56, eo56⟩ := rS HO312.out
                         (first | subst eo56 | (injection eo56 with f1_ f2_ f3_; have f4_ := f1_.symm; have f5_ := f3_.symm; clear f1_ f2_ f3_; subst f4_; subst f5_))
                         refine hK.out _ _ ⟨(cb HB hw308_0), (cb HB hw308_1), (cb HB hw308_2), (cb HB hw309_0), (cb HB hw309_1), (cb HB hw316_0), (cb HB hw316_1)⟩ (fun hHeld => ?_)
                         clear hK K
                         refine rN ?_
                         refine one_ (i := 10) (N := some 92) #[true, true, true, true, true, true, true, true, true, true, true, true, true, true, true, true, true, true, true, false, false, false] rfl rfl (one_of HT_.out (by kernel_rfl)) (by decide) (fun K hK => ?_)
                         refine Kd.R_append_rows_step (Kd.int .u8) (w0 := w) w.heap.size (by rfl) (.tmp 82) (.tmp 91) 22 5 (.int .u8 0) 1 rfl Try.underlying22 info5 rfl (by decide) (by omega) u5 x5_2 t310 _ _ _ (fun k_ => some k_ ≠ (.slice Ao56 t310.length co56 : Value).ownBlock) (fun _ => False) rfl rfl ?aO ?aR (fun _ _ h => h) (fun _ h => h.elim) ?aF ?aB ?aS ?aL ?_
                         (case aR => exact pC (rr HO312.out).2.2)
                         (case aB => exact pB)
                         (case aF => exact (fun k_ hk => Kd.fresh' (Kd.R_lt (pR HO312)) k_ hk))
                         (case aO => exact (pT (Kd.R_mono HO_5.out (fun _ hk => hk.2))))
                         (case aS => exact (bs_ pB))
                         (case aL => have := LMc50.out; omega)
                         intro v314 w55 ho hb hg hat
                         rw [← Ny313.out] at ho
                         have n_ := t3 (Kd.R_after (ok := (fun _ => True)) (pR HO312) hg hat) (hb) (ho)
                         clear HO312 HB HO_5; obtain ⟨HO312, HB, HO315⟩ := n_; clear ho hb hg hat
                         refine hK.out _ _ ⟨(cb HB hw308_0), (cb HB hw308_1), (cb HB hw308_2), (cb HB hw309_0), (cb HB hw309_1), (cb HB hw316_0), (cb HB hw316_1)⟩ (fun hHeld => ?_)
                         clear hK K
                         refine rN ?_
                         refine one_ (i := 19) (N := some 101) #[true, true, true, true, true, true, true, true, true, true, true, true, true, true, true, true, true, true, true, true, false, false] rfl rfl (one_of HT_.out (by kernel_rfl)) (by decide) (fun K hK => ?_)
                         refine goes_ Try.func126 (by kernel_rfl) rfl #[.slice A309_1 ((rd_T86 ((rd_T27 l0 0).f2) x7_2).f1).length c309_1] (by rfl) rfl rfl pA ?_
                         with_reducible refine (spec_l3List.calls k2 _ _ ((rd_T86 ((rd_T27 l0 0).f2) x7_2).f1) t317 _ ?side1 ?side2 A51.out).mono ?_
                         (case side1 => exact pC (Kd.C_below HR316_1.out HB.out))
                         (case side2 => exact HC316_1.out)
                         rintro e w57 ⟨v318, rfl, ho0, hb⟩
                         refine ⟨_, rfl, ?_⟩
                         have n_ := t4 (rE (pR HO312) (rB ho0) hb) (rE (pR HO315) (rB ho0) hb) (rL (rW (rW ho0 (Kd.R_lt (pR HO312))) (Kd.R_lt (pR HO315))) (bs_ pB)) (bz_ pB hb)
                         clear HO312 HO315 HB; obtain ⟨HO312, HO315, HO319, HB⟩ := n_; (try clear hb); (try clear hb2); (try clear hk); (try clear hi); (try clear ho0)
                         obtain ⟨Ao59, co59, eo59⟩ := rS HO319.out
                         (first | subst eo59 | (injection eo59 with f1_ f2_ f3_; have f4_ := f1_.symm; have f5_ := f3_.symm; clear f1_ f2_ f3_; subst f4_; subst f5_))
                         refine hK.out _ _ ⟨(cb HB hw308_0), (cb HB hw308_1), (cb HB hw308_2), (cb HB hw309_0), (cb HB hw309_1), (cb HB hw316_0), (cb HB hw316_1)⟩ (fun hHeld => ?_)
                         clear hK K
                         refine rN ?_
                         refine one_ (i := 20) (N := some 102) #[true, true, true, true, true, true, true, true, true, true, true, true, true, true, true, true, true, true, true, true, true, false] rfl rfl (one_of HT_.out (by kernel_rfl)) (by decide) (fun K hK => ?_)
                         refine Kd.R_append_rows_step (Kd.int .u8) (w0 := w) w.heap.size (by rfl) (.tmp 92) (.tmp 101) 22 5 (.int .u8 0) 1 rfl Try.underlying22 info5 rfl (by decide) (by omega) v314 y313 t317 _ _ _ (fun k_ => some k_ ≠ (.slice Ao56 t310.length co56 : Value).ownBlock ∧ some k_ ≠ (.slice Ao59 t317.length co59 : Value).ownBlock) (fun _ => False) rfl rfl ?aO ?aR (fun _ _ h => h) (fun _ h => h.elim) ?aF ?aB ?aS ?aL ?_
                         (case aR => exact pC (rr HO319.out).2.2)
                         (case aB => exact pB)
                         (case aF => exact (fun k_ hk => ⟨Kd.fresh' (Kd.R_lt (pR HO312)) k_ hk, Kd.fresh' (Kd.R_lt (pR HO319)) k_ hk⟩))
                         (case aO => exact (pR HO315))
                         (case aS => exact (bs_ pB))
                         (case aL => have := LMc52.out; omega)
                         intro v321 w58 ho hb hg hat
                         rw [← Ny320.out] at ho
                         have n_ := t4 (Kd.R_after (ok := (fun k_ => some k_ ≠ (.slice Ao59 t317.length co59 : Value).ownBlock)) (pT (Kd.R_mono HO312.out (fun _ hk => ⟨hk.2, hk.1.2⟩))) hg hat) (Kd.R_after (ok := (fun k_ => some k_ ≠ (.slice Ao56 t310.length co56 : Value).ownBlock)) (pT (Kd.R_mono HO319.out (fun _ hk => ⟨hk.1.2, hk.2⟩))) hg hat) (hb) (ho)
                         clear HO312 HO319 HB HO315; obtain ⟨HO312, HO319, HB, HO322⟩ := n_; clear ho hb hg hat
                         refine hK.out _ _ ⟨(cb HB hw308_0), (cb HB hw308_1), (cb HB hw308_2), (cb HB hw309_0), (cb HB hw309_1), (cb HB hw316_0), (cb HB hw316_1)⟩ (fun hHeld => ?_)
                         clear hK K
                         refine rN ?_
                         refine rP 21 (some 5) #[true, true, true, true, true, true, true, true, true, true, true, true, true, true, true, true, true, true, true, true, true, true] (any_of HT_.out (by kernel_rfl)) ?_
                         refine done_ (done_of HT_.out (by kernel_rfl)) ?_
                         try go_wp2
                         go_roundg k2
                         case measure => have := HK1.out; have := HK2.out; omega
                         case rel => exact ⟨(y320), (wrap64 (x7_2 + 1)), pF, H', ⟨by have := HK1.out; have := HK2.out; omega⟩, ⟨(pT (Kd.R_mono HO322.out (fun _ hk => trivial)))⟩, ⟨pB⟩⟩
                       · rw [if_neg c52] at H
                         exact absurd H (by simp)
                     · rw [if_neg c50] at H
                       exact absurd H (by simp)
                   · rw [if_neg c48] at H
                     exact absurd H (by simp)
                 · rw [if_neg c47] at H
                   have c47b0 : decide (x7_2 < (((rd_T27 l0 0).f2).length : Int)) = false := decide_eq_false c47
                   clear c47
                   obtain rfl := sj H
                   have p307 : 0 ≤ (0 : Int) := (by omega)
                   have q307 : 0 < (l0.length : Int) := pD
                   obtain ⟨ad307, A307_1, c307_1, A307_2, c307_2, e307, hx307_0, hx307_1, hx307_2, hl307_1, hi307_1, hl307_2, hi307_2⟩ := at_T27 HR0.out 0 p307 q307
                   obtain rfl : ad263 = ad307 := (by injection e307)
                   have qi307 : (0 < l0.length) = True := eq_true (by omega)
                   (try rw [z0, zm, az] at hx307_0); (try rw [z0, zm, az] at hx307_1); (try rw [z0, zm, az] at hx307_2); replace hx307_0 := cb HB hx307_0; replace hx307_1 := cb HB hx307_1; replace hx307_2 := cb HB hx307_2; have HR307_1 := am hi307_1; have HC307_1 := am hl307_1; clear hi307_1 hl307_1; have HR307_2 := am hi307_2; have HC307_2 := am hl307_2; clear hi307_2 hl307_2; replace p307 := eq_true p307; replace q307 := eq_true q307
                   go_wp2
                   go_ret
                   exact ⟨_, pE, (pR HO_5), pB⟩
               · rw [if_neg c46] at H
                 exact absurd H (by simp)
           · rw [if_neg c42] at H
             exact absurd H (by simp)
       · rw [if_neg c12] at H
         exact absurd H (by simp)
   · rw [if_neg c6] at H
     exact absurd H (by simp)
 · rw [if_neg c3] at H
   exact absurd H (by simp)
end Go.Proofs.Ythjlbpgiaehjnaa.QFnExactBlockRoot
