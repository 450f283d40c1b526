-- written by this session's program (wip/tools/myprint.py)
import Derived.Test.YtjmdfghljlmfmaaQFnExactHeaderSumx0
import Derived.Test.YtjmdfghljlmfmaaQFnExactHeaderSumx5
-- squeezed
namespace Go.Proofs.Ytjmdfghljlmfmaa.QFnExactHeaderSum
open Go.RowKit Go.Proofs.YtjmdfghljlmfmaaW.PrintWords Go.Proofs.YtjmdfghljlmfmaaW.PrintLast Go.Proofs.YtjmdfghljlmfmaaW.PrintMore
attribute [local go_sem] max2_int min2_int max_two min_two max_three min_three max_four min_four   -- for this text's walks alone
set_option linter.unusedVariables false
set_option linter.unusedSimpArgs false
set_option maxHeartbeats 8000000
set_option maxRecDepth 100000
mutual
def spec_l3Pack_in.l0 : Nat → List (S54) → Bool → List Int → Int → Option (List Int)
 | 0, _, _, _, _ => none
 | k + 1, x0, x1, x5, x6 => if 0 < (x0.length : Int) then (if x6 < (((rd_T54 x0 0).f1).length : Int) then (if 0 ≤ x6 then ((spec_l3Big.f ((rd_T77 ((rd_T54 x0 0).f1) x6).f0)).bind fun t229 => (if x5.length + t229.length < 140737488355328 then ((some (x5 ++ t229 : List Int)).bind fun y232 => ((spec_l3Put.f ((rd_T77 ((rd_T54 x0 0).f1) x6).f1)).bind fun t236 => (if y232.length + t236.length < 140737488355328 then ((some (y232 ++ t236 : List Int)).bind fun y239 => (if x1 = true then ((spec_l3List.f k ((rd_T77 ((rd_T54 x0 0).f1) x6).f2)).bind fun t244 => (if y239.length + t244.length < 140737488355328 then (spec_l3Pack_in.l0 k x0 x1 (y239 ++ t244) (wrap64 (x6 + 1))) else (none))) else (if y239.length < 140737488355328 then (spec_l3Pack_in.l0 k x0 x1 (y239 ++ [0]) (wrap64 (x6 + 1))) else (none)))) else (none)))) else (none))) else (none)) else ((spec_l3Put.f (((rd_T54 x0 0).f2).length : Int)).bind fun t254 => (if x5.length + t254.length < 140737488355328 then (spec_l3Pack_in.l1 k x0 (x5 ++ t254) 0) else (none)))) else (none)
def spec_l3Pack_in.l1 : Nat → List (S54) → List Int → Int → Option (List Int)
 | 0, _, _, _ => none
 | k + 1, x0, x5, x7 => if 0 < (x0.length : Int) then (if x7 < (((rd_T54 x0 0).f2).length : Int) then (if 0 ≤ x7 then ((spec_l3Big.f ((rd_T80 ((rd_T54 x0 0).f2) x7).f0)).bind fun t263 => (if x5.length + t263.length < 140737488355328 then ((some (x5 ++ t263 : List Int)).bind fun y266 => ((spec_l3List.f k ((rd_T80 ((rd_T54 x0 0).f2) x7).f1)).bind fun t270 => (if y266.length + t270.length < 140737488355328 then (spec_l3Pack_in.l1 k x0 (y266 ++ t270) (wrap64 (x7 + 1))) else (none)))) else (none))) else (none)) else (some x5)) else (none)
end
def spec_l3Pack_in.f (k : Nat) (l0 : List (S54)) (a1 : Bool) : Option (List Int) := if 0 < (l0.length : Int) then ((spec_l3Put.f ((rd_T54 l0 0).f0)).bind fun t217 => ((spec_l3Put.f (((rd_T54 l0 0).f1).length : Int)).bind fun t220 => (if t217.length + t220.length < 140737488355328 then (spec_l3Pack_in.l0 k l0 a1 (t217 ++ t220) 0) else (none)))) else (none)
theorem spec_l3Pack_in.mono_l : ∀ k, (∀ y0 y1 y2 y3, LeO (spec_l3Pack_in.l0 k y0 y1 y2 y3) (spec_l3Pack_in.l0 (k + 1) y0 y1 y2 y3)) ∧ (∀ y0 y1 y2, LeO (spec_l3Pack_in.l1 k y0 y1 y2) (spec_l3Pack_in.l1 (k + 1) y0 y1 y2))
 | 0 => ⟨fun _ _ _ _ r h => by simp [spec_l3Pack_in.l0] at h, fun _ _ _ r h => by simp [spec_l3Pack_in.l1] at h⟩
 | k + 1 => by
  obtain ⟨ih0, ih1⟩ := spec_l3Pack_in.mono_l k
  refine ⟨?_, ?_⟩
  · intro y0 y1 y2 y3
    unfold spec_l3Pack_in.l0
    repeat' with_reducible first | exact ih0 _ _ _ _ | exact ih1 _ _ _ | exact spec_l3List.mono _ _ | exact LeO.refl _ | exact LeO.none _ | refine LeO.ite ?_ ?_ | refine LeO.bind ?_ (fun _ => ?_)
  · intro y0 y1 y2
    unfold spec_l3Pack_in.l1
    repeat' with_reducible first | exact ih0 _ _ _ _ | exact ih1 _ _ _ | exact spec_l3List.mono _ _ | exact LeO.refl _ | exact LeO.none _ | refine LeO.ite ?_ ?_ | refine LeO.bind ?_ (fun _ => ?_)
theorem spec_l3Pack_in.mono : ∀ a0 a1 k, LeO (spec_l3Pack_in.f k a0 a1) (spec_l3Pack_in.f (k + 1) a0 a1) := by
 intro a0 a1 k
 obtain ⟨ih0, ih1⟩ := spec_l3Pack_in.mono_l k
 unfold spec_l3Pack_in.f
 repeat' with_reducible first | exact ih0 _ _ _ _ | exact ih1 _ _ _ | exact spec_l3List.mono _ _ | exact LeO.refl _ | exact LeO.none _ | refine LeO.ite ?_ ?_ | refine LeO.bind ?_ (fun _ => ?_)
def spec_l3Pack_in.T1 : Bool × List (List Nat × List Nat) := (true, [([], []), ([0], [0]), ([1], [1]), ([2], [2]), ([3], [3]), ([], []), ([5], [5]), ([6], [6]), ([7], [7]), ([8], [8]), ([9, 4], [9]), ([4, 10, 10], [4, 10]), ([11, 11, 0, 1, 2, 3, 4, 5, 6, 7, 8, 9, 10, 11], [11])])
def spec_l3Pack_in.B1 : List Nat := [0, 1, 3, 7, 15, 0, 32, 96, 224, 480, 1023, 2047, 4095]
theorem spec_l3Pack_in.tab1 : rtab .any (opsOf Try.f66 1) = spec_l3Pack_in.T1 := by kernel_rfl
theorem spec_l3Pack_in.bits1 : waitsOk spec_l3Pack_in.T1.2 spec_l3Pack_in.B1 = true := by kernel_rfl
def spec_l3Pack_in.T5 : Bool × List (List Nat × List Nat) := (true, [([], []), ([], []), ([1], [1]), ([2], [2]), ([3], [3]), ([], []), ([4, 5], [4, 5]), ([6], [6]), ([7], [7]), ([8], [8]), ([0, 9, 9], [0, 9]), ([], []), ([11], [11]), ([12], [12]), ([13], [13]), ([], []), ([14, 15], [14, 15]), ([16], [16]), ([17], [17]), ([18, 10], [18]), ([10, 19, 19], [10, 19]), ([20, 20, 0, 1, 2, 3, 4, 5, 6, 7, 8, 9, 10, 11, 12, 13, 14, 15, 16, 17, 18, 19, 20], [0, 20])])
def spec_l3Pack_in.B5 : List Nat := [0, 0, 2, 6, 14, 0, 62, 126, 254, 510, 1023, 0, 2048, 6144, 14336, 0, 63488, 129024, 260096, 524287, 1048575, 2097151]
theorem spec_l3Pack_in.tab5 : rtab .any (opsOf Try.f66 5) = spec_l3Pack_in.T5 := by kernel_rfl
theorem spec_l3Pack_in.bits5 : waitsOk spec_l3Pack_in.T5.2 spec_l3Pack_in.B5 = true := by kernel_rfl
def spec_l3Pack_in.T13 : Bool × List (List Nat × List Nat) := (true, [([], []), ([], []), ([1], [1]), ([2], [2]), ([3], [3]), ([], []), ([4, 5], [4, 5]), ([6], [6]), ([7], [7]), ([8], [8]), ([0, 9, 9], [0, 9]), ([], []), ([11], [11]), ([12], [12]), ([13], [13]), ([], []), ([14, 15], [14, 15]), ([16], [16]), ([17], [17]), ([18, 10], [18]), ([10, 19, 19], [10, 19]), ([20, 20, 0, 1, 2, 3, 4, 5, 6, 7, 8, 9, 10, 11, 12, 13, 14, 15, 16, 17, 18, 19, 20], [0, 20])])
def spec_l3Pack_in.B13 : List Nat := [0, 0, 2, 6, 14, 0, 62, 126, 254, 510, 1023, 0, 2048, 6144, 14336, 0, 63488, 129024, 260096, 524287, 1048575, 2097151]
theorem spec_l3Pack_in.tab13 : rtab .any (opsOf Try.f66 13) = spec_l3Pack_in.T13 := by kernel_rfl
theorem spec_l3Pack_in.bits13 : waitsOk spec_l3Pack_in.T13.2 spec_l3Pack_in.B13 = true := by kernel_rfl
theorem spec_l3Pack_in.calls (k : Nat) (A0 : Option Addr) (c0 : Nat) (l0 : List (S54)) (a1 : Bool) (r : List Int) (w : World) (hr0 : Kd.C k54 w A0 l0.length l0) (hc0 : l0.length ≤ c0) (h : spec_l3Pack_in.f k l0 a1 = some r) :
 Calls Try.prog 66 #[.pointer A0, .bool a1] w fun e w' => ∃ v0_ : Value, e = .returned (v0_) ∧ Kd.R (Kd.int .u8) 5 w' w.heap.size (fun _ => True) v0_ r ∧ Below w.heap.size w w' := by
 have HR0 := am hr0; have HC0 := am hc0; clear hr0 hc0
 have HB := am (Below.refl w.heap.size w)
 have H : (if 0 < (l0.length : Int) then ((spec_l3Put.f ((rd_T54 l0 0).f0)).bind fun t217 => ((spec_l3Put.f (((rd_T54 l0 0).f1).length : Int)).bind fun t220 => (if t217.length + t220.length < 140737488355328 then (spec_l3Pack_in.l0 k l0 a1 (t217 ++ t220) 0) else (none)))) else (none)) = some r := h
 clear h
 by_cases c3 : 0 < (l0.length : Int)
 · rw [if_pos c3] at H
   have c3b0 : decide (0 < (l0.length : Int)) = true := dt c3
   have c3b1 : decide (0 < l0.length) = true := dt (by omega)
   clear c3
   obtain ⟨t217, A40, H⟩ := bO H
   replace H : ((spec_l3Put.f (((rd_T54 l0 0).f1).length : Int)).bind fun t220 => (if t217.length + t220.length < 140737488355328 then (spec_l3Pack_in.l0 k l0 a1 (t217 ++ t220) 0) else (none))) = some r := H
   have A4 := am A40; clear A40
   obtain ⟨t220, A50, H⟩ := bO H
   replace H : (if t217.length + t220.length < 140737488355328 then (spec_l3Pack_in.l0 k l0 a1 (t217 ++ t220) 0) else (none)) = some r := H
   have A5 := am A50; clear A50
   by_cases c6 : t217.length + t220.length < 140737488355328
   · rw [if_pos c6] at H
     have LMc6 := am c6; clear c6
     obtain ⟨y223, hy223⟩ : ∃ y_ : List Int, y_ = (t217 ++ t220) := ⟨_, rfl⟩
     replace H : (spec_l3Pack_in.l0 k l0 a1 y223 0) = some r := by first | (rw [hy223]; with_reducible exact H) | (have H2_ := (Option.bind_some _ _).symm.trans H; rw [hy223]; with_reducible exact H2_) | (have H2_ := (Option.bind_some _ _).symm.trans H; with_reducible exact H2_) | with_reducible exact H | (rw [hy223]; exact H) | exact H
     have Ny223 := am hy223; clear hy223
     have H' := am H
     clear H
     go_enter Try.func66, Try.ntmps66
     try go_wp2
     have n_ := am (below_drew1 HB.out)
     clear HB; have HB := n_; clear n_
     have p216 : 0 ≤ (0 : Int) := (by omega)
     have q216 : 0 < (l0.length : Int) := pD
     obtain ⟨ad216, A216_1, c216_1, A216_2, c216_2, e216, hx216_0, hx216_1, hx216_2, hl216_1, hi216_1, hl216_2, hi216_2⟩ := at_T54 HR0.out 0 p216 q216
     have hw216_2 := hx216_2
     (try rw [z0, zm, az] at hw216_2)
     have hw216_1 := hx216_1
     (try rw [z0, zm, az] at hw216_1)
     have hw216_0 := hx216_0
     (try rw [z0, zm, az] at hw216_0); cases e216
     have qi216 : (0 < l0.length) = True := eq_true (by omega)
     (try rw [z0, zm, az] at hx216_0); (try rw [z0, zm, az] at hx216_1); (try rw [z0, zm, az] at hx216_2); replace hx216_0 := cb HB hx216_0; replace hx216_1 := cb HB hx216_1; replace hx216_2 := cb HB hx216_2; have HR216_1 := am hi216_1; have HC216_1 := am hl216_1; clear hi216_1 hl216_1; have HR216_2 := am hi216_2; have HC216_2 := am hl216_2; clear hi216_2 hl216_2; replace p216 := eq_true p216; replace q216 := eq_true q216
     refine start_ (n := 13) (S := fun w' => w'.cell? ad216 = some (.int .i64 ((rd_T54 l0 0).f0)) ∧ w'.cell? ⟨ad216.block, ad216.off + 1, none⟩ = some (.slice A216_1 ((rd_T54 l0 0).f1).length c216_1) ∧ w'.cell? ⟨ad216.block, ad216.off + 2, none⟩ = some (.slice A216_2 ((rd_T54 l0 0).f2).length c216_2)) (ds := []) #[false, false, false, false, false, false, false, false, false, false, false, false, false] (by kernel_rfl) rfl rfl ⟨(cb HB hw216_0), (cb HB hw216_1), (cb HB hw216_2)⟩ (fun hHeld => ?_); refine with_tabW spec_l3Pack_in.tab1 spec_l3Pack_in.bits1 (fun HT_ HW_ => ?_)
     generalize w.drew = w7 at HB HR216_1 HR216_2 hx216_0 hx216_1 hx216_2 hHeld ⊢
     refine rP 0 (some 8) #[true, false, false, false, false, false, false, false, false, false, false, false, false] (any_of HT_.out (by kernel_rfl)) ?_
     refine rP 1 (some 9) #[true, true, false, false, false, false, false, false, false, false, false, false, false] (any_of HT_.out (by kernel_rfl)) ?_
     refine rP 2 (some 10) #[true, true, true, false, false, false, false, false, false, false, false, false, false] (any_of HT_.out (by kernel_rfl)) ?_
     refine rP 5 (some 13) #[true, true, true, false, false, true, false, false, false, false, false, false, false] (any_of HT_.out (by kernel_rfl)) ?_
     refine rP 6 (some 14) #[true, true, true, false, false, true, true, false, false, false, false, false, false] (any_of HT_.out (by kernel_rfl)) ?_
     refine rP 7 (some 15) #[true, true, true, false, false, true, true, true, false, false, false, false, false] (any_of HT_.out (by kernel_rfl)) ?_
     refine rT 3 (some 11) #[true, true, true, true, false, true, true, true, false, false, false, false, false] (take_ofW HT_.out HW_.out (by kernel_rfl)) hHeld ?_
     refine rT 8 (some 16) #[true, true, true, true, false, true, true, true, true, false, false, false, false] (take_ofW HT_.out HW_.out (by kernel_rfl)) hHeld ?_
     refine rP 9 (some 17) #[true, true, true, true, false, true, true, true, true, true, false, false, false] (any_of HT_.out (by kernel_rfl)) ?_
     refine one_ (i := 4) (N := some 12) #[true, true, true, true, true, true, true, true, true, true, false, false, false] rfl rfl (one_of HT_.out (by kernel_rfl)) (by decide) (fun K hK => ?_)
     refine goes_ Try.func81 (by kernel_rfl) rfl #[.int .i64 ((rd_T54 l0 0).f0)] (by rfl) rfl rfl pA ?_
     with_reducible refine (spec_l3Put.calls ((rd_T54 l0 0).f0) t217 _ A4.out).mono ?_
     rintro e w8 ⟨v218, rfl, ho0, hb⟩
     refine ⟨_, rfl, ?_⟩
     have n_ := t2 (rL ho0 (bs_ pB)) (bz_ pB hb)
     clear HB; obtain ⟨HO219, HB⟩ := n_; (try clear hb); (try clear hb2); (try clear hk); (try clear hi); (try clear ho0)
     refine hK.out _ _ ⟨(cb HB hw216_0), (cb HB hw216_1), (cb HB hw216_2)⟩ (fun hHeld => ?_)
     clear hK K
     refine rN ?_
     refine one_ (i := 10) (N := some 18) #[true, true, true, true, true, true, true, true, true, true, true, false, false] rfl rfl (one_of HT_.out (by kernel_rfl)) (by decide) (fun K hK => ?_)
     refine goes_ Try.func81 (by kernel_rfl) rfl #[.int .i64 (((rd_T54 l0 0).f1).length : Int)] (by rfl) rfl rfl pA ?_
     with_reducible refine (spec_l3Put.calls (((rd_T54 l0 0).f1).length : Int) t220 _ A5.out).mono ?_
     rintro e w9 ⟨v221, rfl, ho0, hb⟩
     refine ⟨_, rfl, ?_⟩
     have n_ := t3 (rE (pR HO219) (rB ho0) hb) (rL (rW ho0 (Kd.R_lt (pR HO219))) (bs_ pB)) (bz_ pB hb)
     clear HO219 HB; obtain ⟨HO219, HO222, HB⟩ := n_; (try clear hb); (try clear hb2); (try clear hk); (try clear hi); (try clear ho0)
     obtain ⟨Ao11, co11, eo11⟩ := rS HO222.out
     (first | subst eo11 | (injection eo11 with f1_ f2_ f3_; have f4_ := f1_.symm; have f5_ := f3_.symm; clear f1_ f2_ f3_; subst f4_; subst f5_))
     refine hK.out _ _ ⟨(cb HB hw216_0), (cb HB hw216_1), (cb HB hw216_2)⟩ (fun hHeld => ?_)
     clear hK K
     refine rN ?_
     refine one_ (i := 11) (N := some 19) #[true, true, true, true, true, true, true, true, true, true, true, true, false] rfl rfl (one_of HT_.out (by kernel_rfl)) (by decide) (fun K hK => ?_)
     refine Kd.R_append_rows_step (Kd.int .u8) (w0 := w) w.heap.size (by rfl) (.tmp 12) (.tmp 18) 71 5 (.int .u8 0) 1 rfl Try.underlying71 info5 rfl (by decide) (by omega) v218 t217 t220 _ _ _ (fun k_ => some k_ ≠ (.slice Ao11 t220.length co11 : Value).ownBlock) (fun _ => False) rfl rfl ?aO ?aR (fun _ _ h => h) (fun _ h => h.elim) ?aF ?aB ?aS ?aL ?_
     (case aR => exact pC (rr HO222.out).2.2)
     (case aB => exact pB)
     (case aF => exact (fun k_ hk => Kd.fresh' (Kd.R_lt (pR HO222)) k_ hk))
     (case aO => exact (pT (Kd.R_mono HO219.out (fun _ hk => hk.2))))
     (case aS => exact (bs_ pB))
     (case aL => have := LMc6.out; omega)
     intro v224 w10 ho hb hg hat
     rw [← Ny223.out] at ho
     have n_ := t3 (Kd.R_after (ok := (fun _ => True)) (pR HO222) hg hat) (hb) (ho)
     clear HO222 HB HO219; obtain ⟨HO222, HB, HO225⟩ := n_; clear ho hb hg hat
     refine hK.out _ _ ⟨(cb HB hw216_0), (cb HB hw216_1), (cb HB hw216_2)⟩ (fun hHeld => ?_)
     clear hK K
     refine rN ?_
     refine rP 12 (some 5) #[true, true, true, true, true, true, true, true, true, true, true, true, true] (any_of HT_.out (by kernel_rfl)) ?_
     refine done_ (done_of HT_.out (by kernel_rfl)) ?_
     try go_wp2
     go_loopg [5, 6] k (fun kq v5 v6 w' => ∃ (x5_1 : List Int) (x6_1 : Int), v6 = .int .i64 x6_1 ∧ Aside0 (spec_l3Pack_in.l0 kq l0 a1 x5_1 x6_1 = some r) ∧ Aside0 (kq ≤ k) ∧ Aside0 (Kd.R (Kd.int .u8) 5 w' w.heap.size (fun _ => True) v5 x5_1) ∧ Aside0 (Below w.heap.size w w'))
     case atStart => exact ⟨(y223), (0), pF, H', ⟨Nat.le_refl _⟩, ⟨(pT (Kd.R_mono HO225.out (fun _ hk => trivial)))⟩, ⟨pB⟩⟩
     case round =>
      clear H'
      (try clear c3); (try clear c3b0); (try clear c3b1); (try clear c6); (try clear hx216_0); (try clear hx216_1); (try clear hx216_2); (try clear p216); (try clear q216)
      obtain ⟨x5_1, x6_1, rfl, HA, HK1, HO_5, HB⟩ := hrel
      cases gk with
      | zero => exact absurd HA.out (by simp [spec_l3Pack_in.l0])
      | succ k1 =>
       have H := HA.out
       clear HA
       simp only [spec_l3Pack_in.l0] at H
       by_cases c12 : 0 < (l0.length : Int)
       · rw [if_pos c12] at H
         have c12b0 : decide (0 < (l0.length : Int)) = true := dt c12
         have c12b1 : decide (0 < l0.length) = true := dt (by omega)
         clear c12
         by_cases c13 : x6_1 < (((rd_T54 l0 0).f1).length : Int)
         · rw [if_pos c13] at H
           have c13b0 : decide (x6_1 < (((rd_T54 l0 0).f1).length : Int)) = true := dt c13
           clear c13
           by_cases c14 : 0 ≤ x6_1
           · rw [if_pos c14] at H
             have c14b0 : decide (0 ≤ x6_1) = true := dt c14
             clear c14
             obtain ⟨t229, A150, H⟩ := bO H
             replace H : (if x5_1.length + t229.length < 140737488355328 then ((some (x5_1 ++ t229 : List Int)).bind fun y232 => ((spec_l3Put.f ((rd_T77 ((rd_T54 l0 0).f1) x6_1).f1)).bind fun t236 => (if y232.length + t236.length < 140737488355328 then ((some (y232 ++ t236 : List Int)).bind fun y239 => (if a1 = true then ((spec_l3List.f k1 ((rd_T77 ((rd_T54 l0 0).f1) x6_1).f2)).bind fun t244 => (if y239.length + t244.length < 140737488355328 then (spec_l3Pack_in.l0 k1 l0 a1 (y239 ++ t244) (wrap64 (x6_1 + 1))) else (none))) else (if y239.length < 140737488355328 then (spec_l3Pack_in.l0 k1 l0 a1 (y239 ++ [0]) (wrap64 (x6_1 + 1))) else (none)))) else (none)))) else (none)) = some r := H
             have A15 := am A150; clear A150
             by_cases c16 : x5_1.length + t229.length < 140737488355328
             · rw [if_pos c16] at H
               have LMc16 := am c16; clear c16
               obtain ⟨y232, hy232⟩ : ∃ y_ : List Int, y_ = (x5_1 ++ t229) := ⟨_, rfl⟩
               replace H : ((spec_l3Put.f ((rd_T77 ((rd_T54 l0 0).f1) x6_1).f1)).bind fun t236 => (if y232.length + t236.length < 140737488355328 then ((some (y232 ++ t236 : List Int)).bind fun y239 => (if a1 = true then ((spec_l3List.f k1 ((rd_T77 ((rd_T54 l0 0).f1) x6_1).f2)).bind fun t244 => (if y239.length + t244.length < 140737488355328 then (spec_l3Pack_in.l0 k1 l0 a1 (y239 ++ t244) (wrap64 (x6_1 + 1))) else (none))) else (if y239.length < 140737488355328 then (spec_l3Pack_in.l0 k1 l0 a1 (y239 ++ [0]) (wrap64 (x6_1 + 1))) else (none)))) else (none))) = some r := by first | (rw [hy232]; with_reducible exact H) | (have H2_ := (Option.bind_some _ _).symm.trans H; rw [hy232]; with_reducible exact H2_) | (have H2_ := (Option.bind_some _ _).symm.trans H; with_reducible exact H2_) | with_reducible exact H | (rw [hy232]; exact H) | exact H
               have Ny232 := am hy232; clear hy232
               obtain ⟨t236, A170, H⟩ := bO H
               replace H : (if y232.length + t236.length < 140737488355328 then ((some (y232 ++ t236 : List Int)).bind fun y239 => (if a1 = true then ((spec_l3List.f k1 ((rd_T77 ((rd_T54 l0 0).f1) x6_1).f2)).bind fun t244 => (if y239.length + t244.length < 140737488355328 then (spec_l3Pack_in.l0 k1 l0 a1 (y239 ++ t244) (wrap64 (x6_1 + 1))) else (none))) else (if y239.length < 140737488355328 then (spec_l3Pack_in.l0 k1 l0 a1 (y239 ++ [0]) (wrap64 (x6_1 + 1))) else (none)))) else (none)) = some r := H
               have A17 := am A170; clear A170
               by_cases c18 : y232.length + t236.length < 140737488355328
               · rw [if_pos c18] at H
                 have LMc18 := am c18; clear c18
                 obtain ⟨y239, hy239⟩ : ∃ y_ : List Int, y_ = (y232 ++ t236) := ⟨_, rfl⟩
                 replace H : (if a1 = true then ((spec_l3List.f k1 ((rd_T77 ((rd_T54 l0 0).f1) x6_1).f2)).bind fun t244 => (if y239.length + t244.length < 140737488355328 then (spec_l3Pack_in.l0 k1 l0 a1 (y239 ++ t244) (wrap64 (x6_1 + 1))) else (none))) else (if y239.length < 140737488355328 then (spec_l3Pack_in.l0 k1 l0 a1 (y239 ++ [0]) (wrap64 (x6_1 + 1))) else (none))) = some r := by first | (rw [hy239]; with_reducible exact H) | (have H2_ := (Option.bind_some _ _).symm.trans H; rw [hy239]; with_reducible exact H2_) | (have H2_ := (Option.bind_some _ _).symm.trans H; with_reducible exact H2_) | with_reducible exact H | (rw [hy239]; exact H) | exact H
                 have Ny239 := am hy239; clear hy239
                 by_cases c19 : a1 = true
                 · subst c19
                   have H1 : ((spec_l3List.f k1 ((rd_T77 ((rd_T54 l0 0).f1) x6_1).f2)).bind fun t244 => (if y239.length + t244.length < 140737488355328 then (spec_l3Pack_in.l0 k1 l0 true (y239 ++ t244) (wrap64 (x6_1 + 1))) else (none))) = some r := by rw [if_pos rfl] at H; exact H
                   clear H; have H := H1; clear H1
                   obtain ⟨t244, A200, H⟩ := bO H
                   replace H : (if y239.length + t244.length < 140737488355328 then (spec_l3Pack_in.l0 k1 l0 true (y239 ++ t244) (wrap64 (x6_1 + 1))) else (none)) = some r := H
                   have A20 := am A200; clear A200
                   by_cases c21 : y239.length + t244.length < 140737488355328
                   · rw [if_pos c21] at H
                     have LMc21 := am c21; clear c21
                     obtain ⟨y247, hy247⟩ : ∃ y_ : List Int, y_ = (y239 ++ t244) := ⟨_, rfl⟩
                     replace H : (spec_l3Pack_in.l0 k1 l0 true y247 (wrap64 (x6_1 + 1))) = some r := by first | (rw [hy247]; with_reducible exact H) | (have H2_ := (Option.bind_some _ _).symm.trans H; rw [hy247]; with_reducible exact H2_) | (have H2_ := (Option.bind_some _ _).symm.trans H; with_reducible exact H2_) | with_reducible exact H | (rw [hy247]; exact H) | exact H
                     have Ny247 := am hy247; clear hy247
                     have H' := am H
                     clear H
                     have p226 : 0 ≤ (0 : Int) := (by omega)
                     have q226 : 0 < (l0.length : Int) := pD
                     (try clear hx216_0); (try clear hx216_1); (try clear hx216_2); (try clear hHeld)
                     obtain ⟨ad226, A226_1, c226_1, A226_2, c226_2, e226, hx226_0, hx226_1, hx226_2, hl226_1, hi226_1, hl226_2, hi226_2⟩ := at_T54 HR0.out 0 p226 q226
                     obtain rfl : ad216 = ad226 := (by injection e226)
                     have qi226 : (0 < l0.length) = True := eq_true (by omega)
                     (try rw [z0, zm, az] at hx226_0); (try rw [z0, zm, az] at hx226_1); (try rw [z0, zm, az] at hx226_2); replace hx226_0 := cb HB hx226_0; replace hx226_1 := cb HB hx226_1; replace hx226_2 := cb HB hx226_2; have HR226_1 := am hi226_1; have HC226_1 := am hl226_1; clear hi226_1 hl226_1; have HR226_2 := am hi226_2; have HC226_2 := am hl226_2; clear hi226_2 hl226_2; replace p226 := eq_true p226; replace q226 := eq_true q226
                     try go_wp2
                     have n_ := t2 (Kd.R_drew HO_5.out) (below_drew1 HB.out)
                     clear HO_5 HB; obtain ⟨HO_5, HB⟩ := n_
                     have p227 : 0 ≤ (0 : Int) := (by omega)
                     have q227 : 0 < (l0.length : Int) := pD
                     (try clear hx226_0); (try clear hx226_1); (try clear hx226_2); (try clear hHeld)
                     obtain ⟨ad227, A227_1, c227_1, A227_2, c227_2, e227, hx227_0, hx227_1, hx227_2, hl227_1, hi227_1, hl227_2, hi227_2⟩ := at_T54 HR0.out 0 p227 q227
                     have hw227_2 := hx227_2
                     (try rw [z0, zm, az] at hw227_2)
                     have hw227_1 := hx227_1
                     (try rw [z0, zm, az] at hw227_1)
                     have hw227_0 := hx227_0
                     (try rw [z0, zm, az] at hw227_0)
                     obtain rfl : ad216 = ad227 := (by injection e227)
                     have qi227 : (0 < l0.length) = True := eq_true (by omega)
                     (try rw [z0, zm, az] at hx227_0); (try rw [z0, zm, az] at hx227_1); (try rw [z0, zm, az] at hx227_2); replace hx227_0 := cb HB hx227_0; replace hx227_1 := cb HB hx227_1; replace hx227_2 := cb HB hx227_2; have HR227_1 := am hi227_1; have HC227_1 := am hl227_1; clear hi227_1 hl227_1; have HR227_2 := am hi227_2; have HC227_2 := am hl227_2; clear hi227_2 hl227_2; replace p227 := eq_true p227; replace q227 := eq_true q227
                     have p228 : 0 ≤ (x6_1 : Int) := pD
                     have q228 : x6_1 < (((rd_T54 l0 0).f1).length : Int) := pD
                     obtain ⟨ad228, A228_2, c228_2, e228, hx228_0, hx228_1, hx228_2, hl228_2, hi228_2⟩ := at_T77 HR227_1.out x6_1 p228 q228
                     have hw228_2 := hx228_2
                     have hw228_1 := hx228_1
                     have hw228_0 := hx228_0
                     cases e228; replace hx228_0 := cb HB hx228_0; replace hx228_1 := cb HB hx228_1; replace hx228_2 := cb HB hx228_2; have HR228_2 := am hi228_2; have HC228_2 := am hl228_2; clear hi228_2 hl228_2; replace p228 := eq_true p228; replace q228 := eq_true q228
                     have p235 : 0 ≤ (x6_1 : Int) := pD
                     have q235 : x6_1 < (((rd_T54 l0 0).f1).length : Int) := pD
                     obtain ⟨ad235, A235_2, c235_2, e235, hx235_0, hx235_1, hx235_2, hl235_2, hi235_2⟩ := at_T77 HR227_1.out x6_1 p235 q235
                     have hw235_2 := hx235_2
                     have hw235_1 := hx235_1
                     have hw235_0 := hx235_0
                     obtain rfl : ad228 = ad235 := (by injection e235)
                     replace hx235_0 := cb HB hx235_0; replace hx235_1 := cb HB hx235_1; replace hx235_2 := cb HB hx235_2; have HR235_2 := am hi235_2; have HC235_2 := am hl235_2; clear hi235_2 hl235_2; replace p235 := eq_true p235; replace q235 := eq_true q235
                     have ea_ := sj (hx228_2.symm.trans hx235_2)
                     injection ea_ with ea_ en_ ec_
                     subst ea_; subst ec_; clear en_
                     refine start_ (n := 22) (S := fun w' => w'.cell? ad216 = some (.int .i64 ((rd_T54 l0 0).f0)) ∧ w'.cell? ⟨ad216.block, ad216.off + 1, none⟩ = some (.slice (some ad228) ((rd_T54 l0 0).f1).length c227_1) ∧ w'.cell? ⟨ad216.block, ad216.off + 2, none⟩ = some (.slice A227_2 ((rd_T54 l0 0).f2).length c227_2) ∧ w'.cell? (ad228.add ((x6_1).toNat * 3)) = some (.int .i64 ((rd_T77 ((rd_T54 l0 0).f1) x6_1).f0)) ∧ w'.cell? ⟨(ad228.add ((x6_1).toNat * 3)).block, (ad228.add ((x6_1).toNat * 3)).off + 1, none⟩ = some (.int .i64 ((rd_T77 ((rd_T54 l0 0).f1) x6_1).f1)) ∧ w'.cell? ⟨(ad228.add ((x6_1).toNat * 3)).block, (ad228.add ((x6_1).toNat * 3)).off + 2, none⟩ = some (.slice A228_2 ((rd_T77 ((rd_T54 l0 0).f1) x6_1).f2).length c228_2) ∧ w'.cell? (ad228.add ((x6_1).toNat * 3)) = some (.int .i64 ((rd_T77 ((rd_T54 l0 0).f1) x6_1).f0)) ∧ w'.cell? ⟨(ad228.add ((x6_1).toNat * 3)).block, (ad228.add ((x6_1).toNat * 3)).off + 1, none⟩ = some (.int .i64 ((rd_T77 ((rd_T54 l0 0).f1) x6_1).f1)) ∧ w'.cell? ⟨(ad228.add ((x6_1).toNat * 3)).block, (ad228.add ((x6_1).toNat * 3)).off + 2, none⟩ = some (.slice A228_2 ((rd_T77 ((rd_T54 l0 0).f1) x6_1).f2).length c228_2)) (ds := []) #[false, false, false, false, false, false, false, false, false, false, false, false, false, false, false, false, false, false, false, false, false, false] (by kernel_rfl) rfl rfl ⟨(cb HB hw227_0), (cb HB hw227_1), (cb HB hw227_2), (cb HB hw228_0), (cb HB hw228_1), (cb HB hw228_2), (cb HB hw235_0), (cb HB hw235_1), (cb HB hw235_2)⟩ (fun hHeld => ?_); refine with_tabW spec_l3Pack_in.tab5 spec_l3Pack_in.bits5 (fun HT_ HW_ => ?_)
                     generalize wr.drew = w22 at HO_5 HB HR227_1 HR227_2 HR228_2 HR235_2 hx227_0 hx227_1 hx227_2 hx228_0 hx228_1 hx228_2 hx235_0 hx235_1 hx235_2 hHeld ⊢
                     refine rP 0 (some 29) #[true, false, false, false, false, false, false, false, false, false, false, false, false, false, false, false, false, false, false, false, false, false] (any_of HT_.out (by kernel_rfl)) ?_
                     refine rP 1 (some 30) #[true, true, false, false, false, false, false, false, false, false, false, false, false, false, false, false, false, false, false, false, false, false] (any_of HT_.out (by kernel_rfl)) ?_
                     refine rP 2 (some 31) #[true, true, true, false, false, false, false, false, false, false, false, false, false, false, false, false, false, false, false, false, false, false] (any_of HT_.out (by kernel_rfl)) ?_
                     refine rP 3 (some 32) #[true, true, true, true, false, false, false, false, false, false, false, false, false, false, false, false, false, false, false, false, false, false] (any_of HT_.out (by kernel_rfl)) ?_
                     refine rP 5 (some 34) #[true, true, true, true, false, true, false, false, false, false, false, false, false, false, false, false, false, false, false, false, false, false] (any_of HT_.out (by kernel_rfl)) ?_
                     refine rP 11 (some 40) #[true, true, true, true, false, true, false, false, false, false, false, true, false, false, false, false, false, false, false, false, false, false] (any_of HT_.out (by kernel_rfl)) ?_
                     refine rP 12 (some 41) #[true, true, true, true, false, true, false, false, false, false, false, true, true, false, false, false, false, false, false, false, false, false] (any_of HT_.out (by kernel_rfl)) ?_
                     refine rP 13 (some 42) #[true, true, true, true, false, true, false, false, false, false, false, true, true, true, false, false, false, false, false, false, false, false] (any_of HT_.out (by kernel_rfl)) ?_
                     refine rP 15 (some 44) #[true, true, true, true, false, true, false, false, false, false, false, true, true, true, false, true, false, false, false, false, false, false] (any_of HT_.out (by kernel_rfl)) ?_
                     refine rT 4 (some 33) #[true, true, true, true, true, true, false, false, false, false, false, true, true, true, false, true, false, false, false, false, false, false] (take_ofW HT_.out HW_.out (by kernel_rfl)) hHeld ?_
                     refine rP 6 (some 35) #[true, true, true, true, true, true, true, false, false, false, false, true, true, true, false, true, false, false, false, false, false, false] (any_of HT_.out (by kernel_rfl)) ?_
                     refine rP 7 (some 36) #[true, true, true, true, true, true, true, true, false, false, false, true, true, true, false, true, false, false, false, false, false, false] (any_of HT_.out (by kernel_rfl)) ?_
                     refine rT 8 (some 37) #[true, true, true, true, true, true, true, true, true, false, false, true, true, true, false, true, false, false, false, false, false, false] (take_ofW HT_.out HW_.out (by kernel_rfl)) hHeld ?_
                     refine rT 14 (some 43) #[true, true, true, true, true, true, true, true, true, false, false, true, true, true, true, true, false, false, false, false, false, false] (take_ofW HT_.out HW_.out (by kernel_rfl)) hHeld ?_
                     refine rP 16 (some 45) #[true, true, true, true, true, true, true, true, true, false, false, true, true, true, true, true, true, false, false, false, false, false] (any_of HT_.out (by kernel_rfl)) ?_
                     refine rP 17 (some 46) #[true, true, true, true, true, true, true, true, true, false, false, true, true, true, true, true, true, true, false, false, false, false] (any_of HT_.out (by kernel_rfl)) ?_
                     refine rT 18 (some 47) #[true, true, true, true, true, true, true, true, true, false, false, true, true, true, true, true, true, true, true, false, false, false] (take_ofW HT_.out HW_.out (by kernel_rfl)) hHeld ?_
                     refine one_ (i := 9) (N := some 38) #[true, true, true, true, true, true, true, true, true, true, false, true, true, true, true, true, true, true, true, false, false, false] rfl rfl (one_of HT_.out (by kernel_rfl)) (by decide) (fun K hK => ?_)
                     refine goes_ Try.func82 (by kernel_rfl) rfl #[.int .i64 ((rd_T77 ((rd_T54 l0 0).f1) x6_1).f0)] (by rfl) rfl rfl pA ?_
                     with_reducible refine (spec_l3Big.calls ((rd_T77 ((rd_T54 l0 0).f1) x6_1).f0) t229 _ A15.out).mono ?_
                     rintro e w23 ⟨v230, rfl, ho0, hb⟩
                     refine ⟨_, rfl, ?_⟩
                     have n_ := t3 (rE (pR HO_5) (rB ho0) hb) (rL (rW ho0 (Kd.R_lt (pR HO_5))) (bs_ pB)) (bz_ pB hb)
                     clear HO_5 HB; obtain ⟨HO_5, HO231, HB⟩ := n_; (try clear hb); (try clear hb2); (try clear hk); (try clear hi); (try clear ho0)
                     obtain ⟨Ao25, co25, eo25⟩ := rS HO231.out
                     (first | subst eo25 | (injection eo25 with f1_ f2_ f3_; have f4_ := f1_.symm; have f5_ := f3_.symm; clear f1_ f2_ f3_; subst f4_; subst f5_))
                     refine hK.out _ _ ⟨(cb HB hw227_0), (cb HB hw227_1), (cb HB hw227_2), (cb HB hw228_0), (cb HB hw228_1), (cb HB hw228_2), (cb HB hw235_0), (cb HB hw235_1), (cb HB hw235_2)⟩ (fun hHeld => ?_)
                     clear hK K
                     refine rN ?_
                     refine one_ (i := 10) (N := some 39) #[true, true, true, true, true, true, true, true, true, true, true, true, true, true, true, true, true, true, true, false, false, false] rfl rfl (one_of HT_.out (by kernel_rfl)) (by decide) (fun K hK => ?_)
                     refine Kd.R_append_rows_step (Kd.int .u8) (w0 := w) w.heap.size (by rfl) (.tmp 29) (.tmp 38) 71 5 (.int .u8 0) 1 rfl Try.underlying71 info5 rfl (by decide) (by omega) u5 x5_1 t229 _ _ _ (fun k_ => some k_ ≠ (.slice Ao25 t229.length co25 : Value).ownBlock) (fun _ => False) rfl rfl ?aO ?aR (fun _ _ h => h) (fun _ h => h.elim) ?aF ?aB ?aS ?aL ?_
                     (case aR => exact pC (rr HO231.out).2.2)
                     (case aB => exact pB)
                     (case aF => exact (fun k_ hk => Kd.fresh' (Kd.R_lt (pR HO231)) k_ hk))
                     (case aO => exact (pT (Kd.R_mono HO_5.out (fun _ hk => hk.2))))
                     (case aS => exact (bs_ pB))
                     (case aL => have := LMc16.out; omega)
                     intro v233 w24 ho hb hg hat
                     rw [← Ny232.out] at ho
                     have n_ := t3 (Kd.R_after (ok := (fun _ => True)) (pR HO231) hg hat) (hb) (ho)
                     clear HO231 HB HO_5; obtain ⟨HO231, HB, HO234⟩ := n_; clear ho hb hg hat
                     refine hK.out _ _ ⟨(cb HB hw227_0), (cb HB hw227_1), (cb HB hw227_2), (cb HB hw228_0), (cb HB hw228_1), (cb HB hw228_2), (cb HB hw235_0), (cb HB hw235_1), (cb HB hw235_2)⟩ (fun hHeld => ?_)
                     clear hK K
                     refine rN ?_
                     refine one_ (i := 19) (N := some 48) #[true, true, true, true, true, true, true, true, true, true, true, true, true, true, true, true, true, true, true, true, false, false] rfl rfl (one_of HT_.out (by kernel_rfl)) (by decide) (fun K hK => ?_)
                     refine goes_ Try.func81 (by kernel_rfl) rfl #[.int .i64 ((rd_T77 ((rd_T54 l0 0).f1) x6_1).f1)] (by rfl) rfl rfl pA ?_
                     with_reducible refine (spec_l3Put.calls ((rd_T77 ((rd_T54 l0 0).f1) x6_1).f1) t236 _ A17.out).mono ?_
                     rintro e w26 ⟨v237, rfl, ho0, hb⟩
                     refine ⟨_, rfl, ?_⟩
                     have n_ := t4 (rE (pR HO231) (rB ho0) hb) (rE (pR HO234) (rB ho0) hb) (rL (rW (rW ho0 (Kd.R_lt (pR HO231))) (Kd.R_lt (pR HO234))) (bs_ pB)) (bz_ pB hb)
                     clear HO231 HO234 HB; obtain ⟨HO231, HO234, HO238, HB⟩ := n_; (try clear hb); (try clear hb2); (try clear hk); (try clear hi); (try clear ho0)
                     obtain ⟨Ao28, co28, eo28⟩ := rS HO238.out
                     (first | subst eo28 | (injection eo28 with f1_ f2_ f3_; have f4_ := f1_.symm; have f5_ := f3_.symm; clear f1_ f2_ f3_; subst f4_; subst f5_))
                     refine hK.out _ _ ⟨(cb HB hw227_0), (cb HB hw227_1), (cb HB hw227_2), (cb HB hw228_0), (cb HB hw228_1), (cb HB hw228_2), (cb HB hw235_0), (cb HB hw235_1), (cb HB hw235_2)⟩ (fun hHeld => ?_)
                     clear hK K
                     refine rN ?_
                     refine one_ (i := 20) (N := some 49) #[true, true, true, true, true, true, true, true, true, true, true, true, true, true, true, true, true, true, true, true, true, false] rfl rfl (one_of HT_.out (by kernel_rfl)) (by decide) (fun K hK => ?_)
                     refine Kd.R_append_rows_step (Kd.int .u8) (w0 := w) w.heap.size (by rfl) (.tmp 39) (.tmp 48) 71 5 (.int .u8 0) 1 rfl Try.underlying71 info5 rfl (by decide) (by omega) v233 y232 t236 _ _ _ (fun k_ => some k_ ≠ (.slice Ao25 t229.length co25 : Value).ownBlock ∧ some k_ ≠ (.slice Ao28 t236.length co28 : Value).ownBlock) (fun _ => False) rfl rfl ?aO ?aR (fun _ _ h => h) (fun _ h => h.elim) ?aF ?aB ?aS ?aL ?_
                     (case aR => exact pC (rr HO238.out).2.2)
                     (case aB => exact pB)
                     (case aF => exact (fun k_ hk => ⟨Kd.fresh' (Kd.R_lt (pR HO231)) k_ hk, Kd.fresh' (Kd.R_lt (pR HO238)) k_ hk⟩))
                     (case aO => exact (pR HO234))
                     (case aS => exact (bs_ pB))
                     (case aL => have := LMc18.out; omega)
                     intro v240 w27 ho hb hg hat
                     rw [← Ny239.out] at ho
                     have n_ := t4 (Kd.R_after (ok := (fun k_ => some k_ ≠ (.slice Ao28 t236.length co28 : Value).ownBlock)) (pT (Kd.R_mono HO231.out (fun _ hk => ⟨hk.2, hk.1.2⟩))) hg hat) (Kd.R_after (ok := (fun k_ => some k_ ≠ (.slice Ao25 t229.length co25 : Value).ownBlock)) (pT (Kd.R_mono HO238.out (fun _ hk => ⟨hk.1.2, hk.2⟩))) hg hat) (hb) (ho)
                     clear HO231 HO238 HB HO234; obtain ⟨HO231, HO238, HB, HO241⟩ := n_; clear ho hb hg hat
                     refine hK.out _ _ ⟨(cb HB hw227_0), (cb HB hw227_1), (cb HB hw227_2), (cb HB hw228_0), (cb HB hw228_1), (cb HB hw228_2), (cb HB hw235_0), (cb HB hw235_1), (cb HB hw235_2)⟩ (fun hHeld => ?_)
                     clear hK K
                     refine rN ?_
                     refine rP 21 (some 5) #[true, true, true, true, true, true, true, true, true, true, true, true, true, true, true, true, true, true, true, true, true, true] (any_of HT_.out (by kernel_rfl)) ?_
                     refine done_ (done_of HT_.out (by kernel_rfl)) ?_
                     have p242 : 0 ≤ (0 : Int) := (by omega)
                     have q242 : 0 < (l0.length : Int) := pD
                     (try clear hx227_0); (try clear hx227_1); (try clear hx227_2); (try clear hx228_0); (try clear hx228_1); (try clear hx228_2); (try clear hx235_0); (try clear hx235_1); (try clear hx235_2); (try clear hHeld)
                     obtain ⟨ad242, A242_1, c242_1, A242_2, c242_2, e242, hx242_0, hx242_1, hx242_2, hl242_1, hi242_1, hl242_2, hi242_2⟩ := at_T54 HR0.out 0 p242 q242
                     obtain rfl : ad216 = ad242 := (by injection e242)
                     have qi242 : (0 < l0.length) = True := eq_true (by omega)
                     (try rw [z0, zm, az] at hx242_0); (try rw [z0, zm, az] at hx242_1); (try rw [z0, zm, az] at hx242_2); replace hx242_0 := cb HB hx242_0; replace hx242_1 := cb HB hx242_1; replace hx242_2 := cb HB hx242_2; have HR242_1 := am hi242_1; have HC242_1 := am hl242_1; clear hi242_1 hl242_1; have HR242_2 := am hi242_2; have HC242_2 := am hl242_2; clear hi242_2 hl242_2; replace p242 := eq_true p242; replace q242 := eq_true q242
                     have p243 : 0 ≤ (x6_1 : Int) := pD
                     have q243 : x6_1 < (((rd_T54 l0 0).f1).length : Int) := pD
                     obtain ⟨ad243, A243_2, c243_2, e243, hx243_0, hx243_1, hx243_2, hl243_2, hi243_2⟩ := at_T77 HR242_1.out x6_1 p243 q243
                     cases e243; replace hx243_0 := cb HB hx243_0; replace hx243_1 := cb HB hx243_1; replace hx243_2 := cb HB hx243_2; have HR243_2 := am hi243_2; have HC243_2 := am hl243_2; clear hi243_2 hl243_2; replace p243 := eq_true p243; replace q243 := eq_true q243
                     try go_wp2_with (first | ((with_reducible refine gC (f := 83) rfl ?_); refine goesL_ (some 60) rfl rfl Try.func83 (by kernel_rfl) rfl #[.slice A243_2 ((rd_T77 ((rd_T54 l0 0).f1) x6_1).f2).length c243_2] rfl pA ?_; (with_reducible refine (spec_l3List.calls k1 _ _ ((rd_T77 ((rd_T54 l0 0).f1) x6_1).f2) t244 _ ?side1 ?side2 A20.out).mono ?_); (case side1 => exact pC (Kd.C_below HR243_2.out HB.out)); (case side2 => exact HC243_2.out); rintro e w29 ⟨v245, rfl, ho0, hb⟩; refine ⟨_, rfl, ?_⟩; have n_ := t5 (rE (pR HO231) (rB ho0) hb) (rE (pR HO238) (rB ho0) hb) (rE (pR HO241) (rB ho0) hb) (rL (rW (rW (rW ho0 (Kd.R_lt (pR HO231))) (Kd.R_lt (pR HO238))) (Kd.R_lt (pR HO241))) (bs_ pB)) (bz_ pB hb); clear HO231 HO238 HO241 HB; obtain ⟨HO231, HO238, HO241, HO246, HB⟩ := n_; (try clear hb); (try clear ho0); obtain ⟨Ao31, co31, eo31⟩ := rS HO246.out; subst eo31) | ((with_reducible refine gB (b := .append) (xs := #[.tmp 51, .tmp 60]) rfl ?_); at_builtin; refine Kd.R_append_rows (Kd.int .u8) (w0 := w) w.heap.size rfl (.tmp 51) (.tmp 60) 71 5 (.int .u8 0) 1 rfl Try.underlying71 info5 rfl (by decide) (by omega) v240 y239 t244 _ _ _ (fun k_ => some k_ ≠ (.slice Ao25 t229.length co25 : Value).ownBlock ∧ some k_ ≠ (.slice Ao28 t236.length co28 : Value).ownBlock ∧ some k_ ≠ (.slice Ao31 t244.length co31 : Value).ownBlock) (fun _ => False) rfl rfl ?aO ?aR (fun _ _ h => h) (fun _ h => h.elim) ?aF ?aB ?aS ?aL ?_; (case aR => exact pC (rr HO246.out).2.2); (case aB => exact pB); (case aF => exact (fun k_ hk => ⟨Kd.fresh' (Kd.R_lt (pR HO231)) k_ hk, Kd.fresh' (Kd.R_lt (pR HO238)) k_ hk, Kd.fresh' (Kd.R_lt (pR HO246)) k_ hk⟩)); (case aO => exact (pT (Kd.R_mono HO241.out (fun _ hk => ⟨hk.1.1, ⟨hk.1.2, hk.2⟩⟩)))); (case aS => exact (bs_ pB)); (case aL => have := LMc21.out; omega); intro v248 w30 ho hb hg hat; rw [← Ny247.out] at ho; have n_ := t5 (Kd.R_after (ok := (fun k_ => some k_ ≠ (.slice Ao28 t236.length co28 : Value).ownBlock ∧ some k_ ≠ (.slice Ao31 t244.length co31 : Value).ownBlock)) (pT (Kd.R_mono HO231.out (fun _ hk => ⟨⟨hk.1.1, hk.2⟩, hk.1.2⟩))) hg hat) (Kd.R_after (ok := (fun k_ => some k_ ≠ (.slice Ao25 t229.length co25 : Value).ownBlock ∧ some k_ ≠ (.slice Ao31 t244.length co31 : Value).ownBlock)) (pT (Kd.R_mono HO238.out (fun _ hk => ⟨⟨hk.1.1, hk.2⟩, hk.1.2⟩))) hg hat) (Kd.R_after (ok := (fun k_ => some k_ ≠ (.slice Ao25 t229.length co25 : Value).ownBlock ∧ some k_ ≠ (.slice Ao28 t236.length co28 : Value).ownBlock)) (pT (Kd.R_mono HO246.out (fun _ hk => ⟨⟨hk.1.1.2, hk.1.2⟩, hk.2⟩))) hg hat) (hb) (ho); clear HO231 HO238 HO246 HB HO241; obtain ⟨HO231, HO238, HO246, HB, HO249⟩ := n_; clear ho hb hg hat))
                     go_roundg k1
                     case measure => have := HK1.out; omega
                     case rel => exact ⟨(y247), (wrap64 (x6_1 + 1)), pF, H', ⟨by have := HK1.out; omega⟩, ⟨(pT (Kd.R_mono HO249.out (fun _ hk => trivial)))⟩, ⟨pB⟩⟩
                   · rw [if_neg c21] at H
                     exact absurd H (by simp)
                 · replace c19 := Bool.eq_false_iff.mpr c19
                   subst c19
                   have H1 : (if y239.length < 140737488355328 then (spec_l3Pack_in.l0 k1 l0 false (y239 ++ [0]) (wrap64 (x6_1 + 1))) else (none)) = some r := by rw [if_neg (show ¬ (false = true) by decide)] at H; exact H
                   clear H; have H := H1; clear H1
                   by_cases c32 : y239.length < 140737488355328
                   · rw [if_pos c32] at H
                     have LMc32 := am c32; clear c32
                     obtain ⟨y250, hy250⟩ : ∃ y_ : List Int, y_ = (y239 ++ [0]) := ⟨_, rfl⟩
                     replace H : (spec_l3Pack_in.l0 k1 l0 false y250 (wrap64 (x6_1 + 1))) = some r := by first | (rw [hy250]; with_reducible exact H) | (have H2_ := (Option.bind_some _ _).symm.trans H; rw [hy250]; with_reducible exact H2_) | (have H2_ := (Option.bind_some _ _).symm.trans H; with_reducible exact H2_) | with_reducible exact H | (rw [hy250]; exact H) | exact H
                     have Ny250 := am hy250; clear hy250
                     have H' := am H
                     clear H
                     have p226 : 0 ≤ (0 : Int) := (by omega)
                     have q226 : 0 < (l0.length : Int) := pD
                     obtain ⟨ad226, A226_1, c226_1, A226_2, c226_2, e226, hx226_0, hx226_1, hx226_2, hl226_1, hi226_1, hl226_2, hi226_2⟩ := at_T54 HR0.out 0 p226 q226
                     obtain rfl : ad216 = ad226 := (by injection e226)
                     have qi226 : (0 < l0.length) = True := eq_true (by omega)
                     (try rw [z0, zm, az] at hx226_0); (try rw [z0, zm, az] at hx226_1); (try rw [z0, zm, az] at hx226_2); replace hx226_0 := cb HB hx226_0; replace hx226_1 := cb HB hx226_1; replace hx226_2 := cb HB hx226_2; have HR226_1 := am hi226_1; have HC226_1 := am hl226_1; clear hi226_1 hl226_1; have HR226_2 := am hi226_2; have HC226_2 := am hl226_2; clear hi226_2 hl226_2; replace p226 := eq_true p226; replace q226 := eq_true q226
                     try go_wp2
                     have n_ := t2 (Kd.R_drew HO_5.out) (below_drew1 HB.out)
                     clear HO_5 HB; obtain ⟨HO_5, HB⟩ := n_
                     have p227 : 0 ≤ (0 : Int) := (by omega)
                     have q227 : 0 < (l0.length : Int) := pD
                     (try clear hx226_0); (try clear hx226_1); (try clear hx226_2); (try clear hHeld)
                     obtain ⟨ad227, A227_1, c227_1, A227_2, c227_2, e227, hx227_0, hx227_1, hx227_2, hl227_1, hi227_1, hl227_2, hi227_2⟩ := at_T54 HR0.out 0 p227 q227
                     have hw227_2 := hx227_2
                     (try rw [z0, zm, az] at hw227_2)
                     have hw227_1 := hx227_1
                     (try rw [z0, zm, az] at hw227_1)
                     have hw227_0 := hx227_0
                     (try rw [z0, zm, az] at hw227_0)
                     obtain rfl : ad216 = ad227 := (by injection e227)
                     have qi227 : (0 < l0.length) = True := eq_true (by omega)
                     (try rw [z0, zm, az] at hx227_0); (try rw [z0, zm, az] at hx227_1); (try rw [z0, zm, az] at hx227_2); replace hx227_0 := cb HB hx227_0; replace hx227_1 := cb HB hx227_1; replace hx227_2 := cb HB hx227_2; have HR227_1 := am hi227_1; have HC227_1 := am hl227_1; clear hi227_1 hl227_1; have HR227_2 := am hi227_2; have HC227_2 := am hl227_2; clear hi227_2 hl227_2; replace p227 := eq_true p227; replace q227 := eq_true q227
                     have p228 : 0 ≤ (x6_1 : Int) := pD
                     have q228 : x6_1 < (((rd_T54 l0 0).f1).length : Int) := pD
                     obtain ⟨ad228, A228_2, c228_2, e228, hx228_0, hx228_1, hx228_2, hl228_2, hi228_2⟩ := at_T77 HR227_1.out x6_1 p228 q228
                     have hw228_2 := hx228_2
                     have hw228_1 := hx228_1
                     have hw228_0 := hx228_0
                     cases e228; replace hx228_0 := cb HB hx228_0; replace hx228_1 := cb HB hx228_1; replace hx228_2 := cb HB hx228_2; have HR228_2 := am hi228_2; have HC228_2 := am hl228_2; clear hi228_2 hl228_2; replace p228 := eq_true p228; replace q228 := eq_true q228
                     have p235 : 0 ≤ (x6_1 : Int) := pD
                     have q235 : x6_1 < (((rd_T54 l0 0).f1).length : Int) := pD
                     obtain ⟨ad235, A235_2, c235_2, e235, hx235_0, hx235_1, hx235_2, hl235_2, hi235_2⟩ := at_T77 HR227_1.out x6_1 p235 q235
                     have hw235_2 := hx235_2
                     have hw235_1 := hx235_1
                     have hw235_0 := hx235_0
                     obtain rfl : ad228 = ad235 := (by injection e235)
                     replace hx235_0 := cb HB hx235_0; replace hx235_1 := cb HB hx235_1; replace hx235_2 := cb HB hx235_2; have HR235_2 := am hi235_2; have HC235_2 := am hl235_2; clear hi235_2 hl235_2; replace p235 := eq_true p235; replace q235 := eq_true q235
                     have ea_ := sj (hx228_2.symm.trans hx235_2)
                     injection ea_ with ea_ en_ ec_
                     subst ea_; subst ec_; clear en_
                     refine start_ (n := 22) (S := fun w' => w'.cell? ad216 = some (.int .i64 ((rd_T54 l0 0).f0)) ∧ w'.cell? ⟨ad216.block, ad216.off + 1, none⟩ = some (.slice (some ad228) ((rd_T54 l0 0).f1).length c227_1) ∧ w'.cell? ⟨ad216.block, ad216.off + 2, none⟩ = some (.slice A227_2 ((rd_T54 l0 0).f2).length c227_2) ∧ w'.cell? (ad228.add ((x6_1).toNat * 3)) = some (.int .i64 ((rd_T77 ((rd_T54 l0 0).f1) x6_1).f0)) ∧ w'.cell? ⟨(ad228.add ((x6_1).toNat * 3)).block, (ad228.add ((x6_1).toNat * 3)).off + 1, none⟩ = some (.int .i64 ((rd_T77 ((rd_T54 l0 0).f1) x6_1).f1)) ∧ w'.cell? ⟨(ad228.add ((x6_1).toNat * 3)).block, (ad228.add ((x6_1).toNat * 3)).off + 2, none⟩ = some (.slice A228_2 ((rd_T77 ((rd_T54 l0 0).f1) x6_1).f2).length c228_2) ∧ w'.cell? (ad228.add ((x6_1).toNat * 3)) = some (.int .i64 ((rd_T77 ((rd_T54 l0 0).f1) x6_1).f0)) ∧ w'.cell? ⟨(ad228.add ((x6_1).toNat * 3)).block, (ad228.add ((x6_1).toNat * 3)).off + 1, none⟩ = some (.int .i64 ((rd_T77 ((rd_T54 l0 0).f1) x6_1).f1)) ∧ w'.cell? ⟨(ad228.add ((x6_1).toNat * 3)).block, (ad228.add ((x6_1).toNat * 3)).off + 2, none⟩ = some (.slice A228_2 ((rd_T77 ((rd_T54 l0 0).f1) x6_1).f2).length c228_2)) (ds := []) #[false, false, false, false, false, false, false, false, false, false, false, false, false, false, false, false, false, false, false, false, false, false] (by kernel_rfl) rfl rfl ⟨(cb HB hw227_0), (cb HB hw227_1), (cb HB hw227_2), (cb HB hw228_0), (cb HB hw228_1), (cb HB hw228_2), (cb HB hw235_0), (cb HB hw235_1), (cb HB hw235_2)⟩ (fun hHeld => ?_); refine with_tabW spec_l3Pack_in.tab5 spec_l3Pack_in.bits5 (fun HT_ HW_ => ?_)
                     generalize wr.drew = w33 at HO_5 HB HR227_1 HR227_2 HR228_2 HR235_2 hx227_0 hx227_1 hx227_2 hx228_0 hx228_1 hx228_2 hx235_0 hx235_1 hx235_2 hHeld ⊢
                     refine rP 0 (some 29) #[true, false, false, false, false, false, false, false, false, false, false, false, false, false, false, false, false, false, false, false, false, false] (any_of HT_.out (by kernel_rfl)) ?_
                     refine rP 1 (some 30) #[true, true, false, false, false, false, false, false, false, false, false, false, false, false, false, false, false, false, false, false, false, false] (any_of HT_.out (by kernel_rfl)) ?_
                     refine rP 2 (some 31) #[true, true, true, false, false, false, false, false, false, false, false, false, false, false, false, false, false, false, false, false, false, false] (any_of HT_.out (by kernel_rfl)) ?_
                     refine rP 3 (some 32) #[true, true, true, true, false, false, false, false, false, false, false, false, false, false, false, false, false, false, false, false, false, false] (any_of HT_.out (by kernel_rfl)) ?_
                     refine rP 5 (some 34) #[true, true, true, true, false, true, false, false, false, false, false, false, false, false, false, false, false, false, false, false, false, false] (any_of HT_.out (by kernel_rfl)) ?_
                     refine rP 11 (some 40) #[true, true, true, true, false, true, false, false, false, false, false, true, false, false, false, false, false, false, false, false, false, false] (any_of HT_.out (by kernel_rfl)) ?_
                     refine rP 12 (some 41) #[true, true, true, true, false, true, false, false, false, false, false, true, true, false, false, false, false, false, false, false, false, false] (any_of HT_.out (by kernel_rfl)) ?_
                     refine rP 13 (some 42) #[true, true, true, true, false, true, false, false, false, false, false, true, true, true, false, false, false, false, false, false, false, false] (any_of HT_.out (by kernel_rfl)) ?_
                     refine rP 15 (some 44) #[true, true, true, true, false, true, false, false, false, false, false, true, true, true, false, true, false, false, false, false, false, false] (any_of HT_.out (by kernel_rfl)) ?_
                     refine rT 4 (some 33) #[true, true, true, true, true, true, false, false, false, false, false, true, true, true, false, true, false, false, false, false, false, false] (take_ofW HT_.out HW_.out (by kernel_rfl)) hHeld ?_
                     refine rP 6 (some 35) #[true, true, true, true, true, true, true, false, false, false, false, true, true, true, false, true, false, false, false, false, false, false] (any_of HT_.out (by kernel_rfl)) ?_
                     refine rP 7 (some 36) #[true, true, true, true, true, true, true, true, false, false, false, true, true, true, false, true, false, false, false, false, false, false] (any_of HT_.out (by kernel_rfl)) ?_
                     refine rT 8 (some 37) #[true, true, true, true, true, true, true, true, true, false, false, true, true, true, false, true, false, false, false, false, false, false] (take_ofW HT_.out HW_.out (by kernel_rfl)) hHeld ?_
                     refine rT 14 (some 43) #[true, true, true, true, true, true, true, true, true, false, false, true, true, true, true, true, false, false, false, false, false, false] (take_ofW HT_.out HW_.out (by kernel_rfl)) hHeld ?_
                     refine rP 16 (some 45) #[true, true, true, true, true, true, true, true, true, false, false, true, true, true, true, true, true, false, false, false, false, false] (any_of HT_.out (by kernel_rfl)) ?_
                     refine rP 17 (some 46) #[true, true, true, true, true, true, true, true, true, false, false, true, true, true, true, true, true, true, false, false, false, false] (any_of HT_.out (by kernel_rfl)) ?_
                     refine rT 18 (some 47) #[true, true, true, true, true, true, true, true, true, false, false, true, true, true, true, true, true, true, true, false, false, false] (take_ofW HT_.out HW_.out (by kernel_rfl)) hHeld ?_
                     refine one_ (i := 9) (N := some 38) #[true, true, true, true, true, true, true, true, true, true, false, true, true, true, true, true, true, true, true, false, false, false] rfl rfl (one_of HT_.out (by kernel_rfl)) (by decide) (fun K hK => ?_)
                     refine goes_ Try.func82 (by kernel_rfl) rfl #[.int .i64 ((rd_T77 ((rd_T54 l0 0).f1) x6_1).f0)] (by rfl) rfl rfl pA ?_
                     with_reducible refine (spec_l3Big.calls ((rd_T77 ((rd_T54 l0 0).f1) x6_1).f0) t229 _ A15.out).mono ?_
                     rintro e w34 ⟨v230, rfl, ho0, hb⟩
                     refine ⟨_, rfl, ?_⟩
                     have n_ := t3 (rE (pR HO_5) (rB ho0) hb) (rL (rW ho0 (Kd.R_lt (pR HO_5))) (bs_ pB)) (bz_ pB hb)
                     clear HO_5 HB; obtain ⟨HO_5, HO231, HB⟩ := n_; (try clear hb); (try clear hb2); (try clear hk); (try clear hi); (try clear ho0)
                     obtain ⟨Ao36, co36, eo36⟩ := rS HO231.out
                     (first | subst eo36 | (injection eo36 with f1_ f2_ f3_; have f4_ := f1_.symm; have f5_ := f3_.symm; clear f1_ f2_ f3_; subst f4_; subst f5_))
                     refine hK.out _ _ ⟨(cb HB hw227_0), (cb HB hw227_1), (cb HB hw227_2), (cb HB hw228_0), (cb HB hw228_1), (cb HB hw228_2), (cb HB hw235_0), (cb HB hw235_1), (cb HB hw235_2)⟩ (fun hHeld => ?_)
                     clear hK K
                     refine rN ?_
                     refine one_ (i := 10) (N := some 39) #[true, true, true, true, true, true, true, true, true, true, true, true, true, true, true, true, true, true, true, false, false, false] rfl rfl (one_of HT_.out (by kernel_rfl)) (by decide) (fun K hK => ?_)
                     refine Kd.R_append_rows_step (Kd.int .u8) (w0 := w) w.heap.size (by rfl) (.tmp 29) (.tmp 38) 71 5 (.int .u8 0) 1 rfl Try.underlying71 info5 rfl (by decide) (by omega) u5 x5_1 t229 _ _ _ (fun k_ => some k_ ≠ (.slice Ao36 t229.length co36 : Value).ownBlock) (fun _ => False) rfl rfl ?aO ?aR (fun _ _ h => h) (fun _ h => h.elim) ?aF ?aB ?aS ?aL ?_
                     (case aR => exact pC (rr HO231.out).2.2)
                     (case aB => exact pB)
                     (case aF => exact (fun k_ hk => Kd.fresh' (Kd.R_lt (pR HO231)) k_ hk))
                     (case aO => exact (pT (Kd.R_mono HO_5.out (fun _ hk => hk.2))))
                     (case aS => exact (bs_ pB))
                     (case aL => have := LMc16.out; omega)
                     intro v233 w35 ho hb hg hat
                     rw [← Ny232.out] at ho
                     have n_ := t3 (Kd.R_after (ok := (fun _ => True)) (pR HO231) hg hat) (hb) (ho)
                     clear HO231 HB HO_5; obtain ⟨HO231, HB, HO234⟩ := n_; clear ho hb hg hat
                     refine hK.out _ _ ⟨(cb HB hw227_0), (cb HB hw227_1), (cb HB hw227_2), (cb HB hw228_0), (cb HB hw228_1), (cb HB hw228_2), (cb HB hw235_0), (cb HB hw235_1), (cb HB hw235_2)⟩ (fun hHeld => ?_)
                     clear hK K
                     refine rN ?_
                     refine one_ (i := 19) (N := some 48) #[true, true, true, true, true, true, true, true, true, true, true, true, true, true, true, true, true, true, true, true, false, false] rfl rfl (one_of HT_.out (by kernel_rfl)) (by decide) (fun K hK => ?_)
                     refine goes_ Try.func81 (by kernel_rfl) rfl #[.int .i64 ((rd_T77 ((rd_T54 l0 0).f1) x6_1).f1)] (by rfl) rfl rfl pA ?_
                     with_reducible refine (spec_l3Put.calls ((rd_T77 ((rd_T54 l0 0).f1) x6_1).f1) t236 _ A17.out).mono ?_
                     rintro e w37 ⟨v237, rfl, ho0, hb⟩
                     refine ⟨_, rfl, ?_⟩
                     have n_ := t4 (rE (pR HO231) (rB ho0) hb) (rE (pR HO234) (rB ho0) hb) (rL (rW (rW ho0 (Kd.R_lt (pR HO231))) (Kd.R_lt (pR HO234))) (bs_ pB)) (bz_ pB hb)
                     clear HO231 HO234 HB; obtain ⟨HO231, HO234, HO238, HB⟩ := n_; (try clear hb); (try clear hb2); (try clear hk); (try clear hi); (try clear ho0)
                     obtain ⟨Ao39, co39, eo39⟩ := rS HO238.out
                     (first | subst eo39 | (injection eo39 with f1_ f2_ f3_; have f4_ := f1_.symm; have f5_ := f3_.symm; clear f1_ f2_ f3_; subst f4_; subst f5_))
                     refine hK.out _ _ ⟨(cb HB hw227_0), (cb HB hw227_1), (cb HB hw227_2), (cb HB hw228_0), (cb HB hw228_1), (cb HB hw228_2), (cb HB hw235_0), (cb HB hw235_1), (cb HB hw235_2)⟩ (fun hHeld => ?_)
                     clear hK K
                     refine rN ?_
                     refine one_ (i := 20) (N := some 49) #[true, true, true, true, true, true, true, true, true, true, true, true, true, true, true, true, true, true, true, true, true, false] rfl rfl (one_of HT_.out (by kernel_rfl)) (by decide) (fun K hK => ?_)
                     refine Kd.R_append_rows_step (Kd.int .u8) (w0 := w) w.heap.size (by rfl) (.tmp 39) (.tmp 48) 71 5 (.int .u8 0) 1 rfl Try.underlying71 info5 rfl (by decide) (by omega) v233 y232 t236 _ _ _ (fun k_ => some k_ ≠ (.slice Ao36 t229.length co36 : Value).ownBlock ∧ some k_ ≠ (.slice Ao39 t236.length co39 : Value).ownBlock) (fun _ => False) rfl rfl ?aO ?aR (fun _ _ h => h) (fun _ h => h.elim) ?aF ?aB ?aS ?aL ?_
                     (case aR => exact pC (rr HO238.out).2.2)
                     (case aB => exact pB)
                     (case aF => exact (fun k_ hk => ⟨Kd.fresh' (Kd.R_lt (pR HO231)) k_ hk, Kd.fresh' (Kd.R_lt (pR HO238)) k_ hk⟩))
                     (case aO => exact (pR HO234))
                     (case aS => exact (bs_ pB))
                     (case aL => have := LMc18.out; omega)
                     intro v240 w38 ho hb hg hat
                     rw [← Ny239.out] at ho
                     have n_ := t4 (Kd.R_after (ok := (fun k_ => some k_ ≠ (.slice Ao39 t236.length co39 : Value).ownBlock)) (pT (Kd.R_mono HO231.out (fun _ hk => ⟨hk.2, hk.1.2⟩))) hg hat) (Kd.R_after (ok := (fun k_ => some k_ ≠ (.slice Ao36 t229.length co36 : Value).ownBlock)) (pT (Kd.R_mono HO238.out (fun _ hk => ⟨hk.1.2, hk.2⟩))) hg hat) (hb) (ho)
                     clear HO231 HO238 HB HO234; obtain ⟨HO231, HO238, HB, HO241⟩ := n_; clear ho hb hg hat
                     refine hK.out _ _ ⟨(cb HB hw227_0), (cb HB hw227_1), (cb HB hw227_2), (cb HB hw228_0), (cb HB hw228_1), (cb HB hw228_2), (cb HB hw235_0), (cb HB hw235_1), (cb HB hw235_2)⟩ (fun hHeld => ?_)
                     clear hK K
                     refine rN ?_
                     refine rP 21 (some 5) #[true, true, true, true, true, true, true, true, true, true, true, true, true, true, true, true, true, true, true, true, true, true] (any_of HT_.out (by kernel_rfl)) ?_
                     refine done_ (done_of HT_.out (by kernel_rfl)) ?_
                     try go_wp2_with (first | ((with_reducible refine gB (b := .append) (xs := #[.tmp 62, .tmp 63]) rfl ?_); at_builtin; refine Kd.R_append (Kd.int .u8) (w0 := w) w.heap.size rfl (.tmp 62) (.tmp 63) 71 5 (.int .u8 0) 1 rfl Try.underlying71 info5 rfl (by decide) (by omega) v240 y239 0 [.int .u8 0] (fun k_ => some k_ ≠ (.slice Ao36 t229.length co36 : Value).ownBlock ∧ some k_ ≠ (.slice Ao39 t236.length co39 : Value).ownBlock) (fun _ => False) rfl rfl ?aP (fun _ hk => hk.elim) ?aF ?aO ?aB ?aS ?aL ?_; (case aP => exact rfl); (case aB => exact pB); (case aF => exact (fun k_ hk => ⟨Kd.fresh' (Kd.R_lt (pR HO231)) k_ hk, Kd.fresh' (Kd.R_lt (pR HO238)) k_ hk⟩)); (case aO => exact (pR HO241)); (case aS => exact (bs_ pB)); (case aL => have := LMc32.out; omega); intro v251 w40 ho hb hg hat; rw [← Ny250.out] at ho; have n_ := t4 (Kd.R_after (ok := (fun k_ => some k_ ≠ (.slice Ao39 t236.length co39 : Value).ownBlock)) (pR HO231) hg hat) (Kd.R_after (ok := (fun k_ => some k_ ≠ (.slice Ao36 t229.length co36 : Value).ownBlock)) (pR HO238) hg hat) (hb) (ho); clear HO231 HO238 HB HO241; obtain ⟨HO231, HO238, HB, HO252⟩ := n_; clear ho hb hg hat))
                     go_roundg k1
                     case measure => have := HK1.out; omega
                     case rel => exact ⟨(y250), (wrap64 (x6_1 + 1)), pF, H', ⟨by have := HK1.out; omega⟩, ⟨(pT (Kd.R_mono HO252.out (fun _ hk => trivial)))⟩, ⟨pB⟩⟩
                   · rw [if_neg c32] at H
                     exact absurd H (by simp)
               · rw [if_neg c18] at H
                 exact absurd H (by simp)
             · rw [if_neg c16] at H
               exact absurd H (by simp)
           · rw [if_neg c14] at H
             exact absurd H (by simp)
         · rw [if_neg c13] at H
           have c13b0 : decide (x6_1 < (((rd_T54 l0 0).f1).length : Int)) = false := decide_eq_false c13
           clear c13
           obtain ⟨t254, A410, H⟩ := bO H
           replace H : (if x5_1.length + t254.length < 140737488355328 then (spec_l3Pack_in.l1 k1 l0 (x5_1 ++ t254) 0) else (none)) = some r := H
           have A41 := am A410; clear A410
           by_cases c42 : x5_1.length + t254.length < 140737488355328
           · rw [if_pos c42] at H
             have LMc42 := am c42; clear c42
             obtain ⟨y257, hy257⟩ : ∃ y_ : List Int, y_ = (x5_1 ++ t254) := ⟨_, rfl⟩
             replace H : (spec_l3Pack_in.l1 k1 l0 y257 0) = some r := by first | (rw [hy257]; with_reducible exact H) | (have H2_ := (Option.bind_some _ _).symm.trans H; rw [hy257]; with_reducible exact H2_) | (have H2_ := (Option.bind_some _ _).symm.trans H; with_reducible exact H2_) | with_reducible exact H | (rw [hy257]; exact H) | exact H
             have Ny257 := am hy257; clear hy257
             have H' := am H
             clear H
             have p226 : 0 ≤ (0 : Int) := (by omega)
             have q226 : 0 < (l0.length : Int) := pD
             obtain ⟨ad226, A226_1, c226_1, A226_2, c226_2, e226, hx226_0, hx226_1, hx226_2, hl226_1, hi226_1, hl226_2, hi226_2⟩ := at_T54 HR0.out 0 p226 q226
             obtain rfl : ad216 = ad226 := (by injection e226)
             have qi226 : (0 < l0.length) = True := eq_true (by omega)
             (try rw [z0, zm, az] at hx226_0); (try rw [z0, zm, az] at hx226_1); (try rw [z0, zm, az] at hx226_2); replace hx226_0 := cb HB hx226_0; replace hx226_1 := cb HB hx226_1; replace hx226_2 := cb HB hx226_2; have HR226_1 := am hi226_1; have HC226_1 := am hl226_1; clear hi226_1 hl226_1; have HR226_2 := am hi226_2; have HC226_2 := am hl226_2; clear hi226_2 hl226_2; replace p226 := eq_true p226; replace q226 := eq_true q226
             have p253 : 0 ≤ (0 : Int) := (by omega)
             have q253 : 0 < (l0.length : Int) := pD
             obtain ⟨ad253, A253_1, c253_1, A253_2, c253_2, e253, hx253_0, hx253_1, hx253_2, hl253_1, hi253_1, hl253_2, hi253_2⟩ := at_T54 HR0.out 0 p253 q253
             obtain rfl : ad216 = ad253 := (by injection e253)
             have qi253 : (0 < l0.length) = True := eq_true (by omega)
             (try rw [z0, zm, az] at hx253_0); (try rw [z0, zm, az] at hx253_1); (try rw [z0, zm, az] at hx253_2); replace hx253_0 := cb HB hx253_0; replace hx253_1 := cb HB hx253_1; replace hx253_2 := cb HB hx253_2; have HR253_1 := am hi253_1; have HC253_1 := am hl253_1; clear hi253_1 hl253_1; have HR253_2 := am hi253_2; have HC253_2 := am hl253_2; clear hi253_2 hl253_2; replace p253 := eq_true p253; replace q253 := eq_true q253
             have ea_ := sj (hx226_1.symm.trans hx253_1)
             injection ea_ with ea_ en_ ec_
             subst ea_; subst ec_; clear en_
             have ea_ := sj (hx226_2.symm.trans hx253_2)
             injection ea_ with ea_ en_ ec_
             subst ea_; subst ec_; clear en_
             go_wp2_with (first | ((with_reducible refine gC (f := 81) rfl ?_); refine goesL_ (some 71) rfl rfl Try.func81 (by kernel_rfl) rfl #[.int .i64 (((rd_T54 l0 0).f2).length : Int)] rfl pA ?_; (with_reducible refine (spec_l3Put.calls (((rd_T54 l0 0).f2).length : Int) t254 _ A41.out).mono ?_); rintro e w43 ⟨v255, rfl, ho0, hb⟩; refine ⟨_, rfl, ?_⟩; have n_ := t3 (rE (pR HO_5) (rB ho0) hb) (rL (rW ho0 (Kd.R_lt (pR HO_5))) (bs_ pB)) (bz_ pB hb); clear HO_5 HB; obtain ⟨HO_5, HO256, HB⟩ := n_; (try clear hb); (try clear ho0); obtain ⟨Ao45, co45, eo45⟩ := rS HO256.out; subst eo45) | ((with_reducible refine gB (b := .append) (xs := #[.tmp 65, .tmp 71]) rfl ?_); at_builtin; refine Kd.R_append_rows (Kd.int .u8) (w0 := w) w.heap.size rfl (.tmp 65) (.tmp 71) 71 5 (.int .u8 0) 1 rfl Try.underlying71 info5 rfl (by decide) (by omega) u5 x5_1 t254 _ _ _ (fun k_ => some k_ ≠ (.slice Ao45 t254.length co45 : Value).ownBlock) (fun _ => False) rfl rfl ?aO ?aR (fun _ _ h => h) (fun _ h => h.elim) ?aF ?aB ?aS ?aL ?_; (case aR => exact pC (rr HO256.out).2.2); (case aB => exact pB); (case aF => exact (fun k_ hk => Kd.fresh' (Kd.R_lt (pR HO256)) k_ hk)); (case aO => exact (pT (Kd.R_mono HO_5.out (fun _ hk => hk.2)))); (case aS => exact (bs_ pB)); (case aL => have := LMc42.out; omega); intro v258 w44 ho hb hg hat; rw [← Ny257.out] at ho; have n_ := t3 (Kd.R_after (ok := (fun _ => True)) (pR HO256) hg hat) (hb) (ho); clear HO256 HB HO_5; obtain ⟨HO256, HB, HO259⟩ := n_; clear ho hb hg hat))
             go_loopg [5, 7] k1 (fun kq v5 v7 w' => ∃ (x5_2 : List Int) (x7_2 : Int), v7 = .int .i64 x7_2 ∧ Aside0 (spec_l3Pack_in.l1 kq l0 x5_2 x7_2 = some r) ∧ Aside0 (kq ≤ k1) ∧ Aside0 (Kd.R (Kd.int .u8) 5 w' w.heap.size (fun _ => True) v5 x5_2) ∧ Aside0 (Below w.heap.size w w'))
             case atStart => exact ⟨(y257), (0), pF, H', ⟨Nat.le_refl _⟩, ⟨(pT (Kd.R_mono HO259.out (fun _ hk => trivial)))⟩, ⟨pB⟩⟩
             case round =>
              clear H'
              (try clear c3); (try clear c13); (try clear c13b0); (try clear c42); (try clear hx226_0); (try clear hx226_1); (try clear hx226_2); (try clear hx253_0); (try clear hx253_1); (try clear hx253_2); (try clear p226); (try clear p253); (try clear q226); (try clear q253)
              obtain ⟨x5_2, x7_2, rfl, HA, HK2, HO_5, HB⟩ := hrel
              cases gk with
              | zero => exact absurd HA.out (by simp [spec_l3Pack_in.l1])
              | succ k2 =>
               have H := HA.out
               clear HA
               simp only [spec_l3Pack_in.l1] at H
               by_cases c46 : 0 < (l0.length : Int)
               · rw [if_pos c46] at H
                 have c46b0 : decide (0 < (l0.length : Int)) = true := dt c46
                 have c46b1 : decide (0 < l0.length) = true := dt (by omega)
                 clear c46
                 by_cases c47 : x7_2 < (((rd_T54 l0 0).f2).length : Int)
                 · rw [if_pos c47] at H
                   have c47b0 : decide (x7_2 < (((rd_T54 l0 0).f2).length : Int)) = true := dt c47
                   clear c47
                   by_cases c48 : 0 ≤ x7_2
                   · rw [if_pos c48] at H
                     have c48b0 : decide (0 ≤ x7_2) = true := dt c48
                     clear c48
                     obtain ⟨t263, A490, H⟩ := bO H
                     replace H : (if x5_2.length + t263.length < 140737488355328 then ((some (x5_2 ++ t263 : List Int)).bind fun y266 => ((spec_l3List.f k2 ((rd_T80 ((rd_T54 l0 0).f2) x7_2).f1)).bind fun t270 => (if y266.length + t270.length < 140737488355328 then (spec_l3Pack_in.l1 k2 l0 (y266 ++ t270) (wrap64 (x7_2 + 1))) else (none)))) else (none)) = some r := H
                     have A49 := am A490; clear A490
                     by_cases c50 : x5_2.length + t263.length < 140737488355328
                     · rw [if_pos c50] at H
                       have LMc50 := am c50; clear c50
                       obtain ⟨y266, hy266⟩ : ∃ y_ : List Int, y_ = (x5_2 ++ t263) := ⟨_, rfl⟩
                       replace H : ((spec_l3List.f k2 ((rd_T80 ((rd_T54 l0 0).f2) x7_2).f1)).bind fun t270 => (if y266.length + t270.length < 140737488355328 then (spec_l3Pack_in.l1 k2 l0 (y266 ++ t270) (wrap64 (x7_2 + 1))) else (none))) = some r := by first | (rw [hy266]; with_reducible exact H) | (have H2_ := (Option.bind_some _ _).symm.trans H; rw [hy266]; with_reducible exact H2_) | (have H2_ := (Option.bind_some _ _).symm.trans H; with_reducible exact H2_) | with_reducible exact H | (rw [hy266]; exact H) | exact H
                       have Ny266 := am hy266; clear hy266
                       obtain ⟨t270, A510, H⟩ := bO H
                       replace H : (if y266.length + t270.length < 140737488355328 then (spec_l3Pack_in.l1 k2 l0 (y266 ++ t270) (wrap64 (x7_2 + 1))) else (none)) = some r := H
                       have A51 := am A510; clear A510
                       by_cases c52 : y266.length + t270.length < 140737488355328
                       · rw [if_pos c52] at H
                         have LMc52 := am c52; clear c52
                         obtain ⟨y273, hy273⟩ : ∃ y_ : List Int, y_ = (y266 ++ t270) := ⟨_, rfl⟩
                         replace H : (spec_l3Pack_in.l1 k2 l0 y273 (wrap64 (x7_2 + 1))) = some r := by first | (rw [hy273]; with_reducible exact H) | (have H2_ := (Option.bind_some _ _).symm.trans H; rw [hy273]; with_reducible exact H2_) | (have H2_ := (Option.bind_some _ _).symm.trans H; with_reducible exact H2_) | with_reducible exact H | (rw [hy273]; exact H) | exact H
                         have Ny273 := am hy273; clear hy273
                         have H' := am H
                         clear H
                         have p260 : 0 ≤ (0 : Int) := (by omega)
                         have q260 : 0 < (l0.length : Int) := pD
                         (try clear hx253_0); (try clear hx253_1); (try clear hx253_2); (try clear hHeld)
                         obtain ⟨ad260, A260_1, c260_1, A260_2, c260_2, e260, hx260_0, hx260_1, hx260_2, hl260_1, hi260_1, hl260_2, hi260_2⟩ := at_T54 HR0.out 0 p260 q260
                         obtain rfl : ad216 = ad260 := (by injection e260)
                         have qi260 : (0 < l0.length) = True := eq_true (by omega)
                         (try rw [z0, zm, az] at hx260_0); (try rw [z0, zm, az] at hx260_1); (try rw [z0, zm, az] at hx260_2); replace hx260_0 := cb HB hx260_0; replace hx260_1 := cb HB hx260_1; replace hx260_2 := cb HB hx260_2; have HR260_1 := am hi260_1; have HC260_1 := am hl260_1; clear hi260_1 hl260_1; have HR260_2 := am hi260_2; have HC260_2 := am hl260_2; clear hi260_2 hl260_2; replace p260 := eq_true p260; replace q260 := eq_true q260
                         try go_wp2
                         have n_ := t2 (Kd.R_drew HO_5.out) (below_drew1 HB.out)
                         clear HO_5 HB; obtain ⟨HO_5, HB⟩ := n_
                         have p261 : 0 ≤ (0 : Int) := (by omega)
                         have q261 : 0 < (l0.length : Int) := pD
                         (try clear hx260_0); (try clear hx260_1); (try clear hx260_2); (try clear hHeld)
                         obtain ⟨ad261, A261_1, c261_1, A261_2, c261_2, e261, hx261_0, hx261_1, hx261_2, hl261_1, hi261_1, hl261_2, hi261_2⟩ := at_T54 HR0.out 0 p261 q261
                         have hw261_2 := hx261_2
                         (try rw [z0, zm, az] at hw261_2)
                         have hw261_1 := hx261_1
                         (try rw [z0, zm, az] at hw261_1)
                         have hw261_0 := hx261_0
                         (try rw [z0, zm, az] at hw261_0)
                         obtain rfl : ad216 = ad261 := (by injection e261)
                         have qi261 : (0 < l0.length) = True := eq_true (by omega)
                         (try rw [z0, zm, az] at hx261_0); (try rw [z0, zm, az] at hx261_1); (try rw [z0, zm, az] at hx261_2); replace hx261_0 := cb HB hx261_0; replace hx261_1 := cb HB hx261_1; replace hx261_2 := cb HB hx261_2; have HR261_1 := am hi261_1; have HC261_1 := am hl261_1; clear hi261_1 hl261_1; have HR261_2 := am hi261_2; have HC261_2 := am hl261_2; clear hi261_2 hl261_2; replace p261 := eq_true p261; replace q261 := eq_true q261
                         have p262 : 0 ≤ (x7_2 : Int) := pD
                         have q262 : x7_2 < (((rd_T54 l0 0).f2).length : Int) := pD
                         obtain ⟨ad262, A262_1, c262_1, e262, hx262_0, hx262_1, hl262_1, hi262_1⟩ := at_T80 HR261_2.out x7_2 p262 q262
                         have hw262_1 := hx262_1
                         have hw262_0 := hx262_0
                         cases e262; replace hx262_0 := cb HB hx262_0; replace hx262_1 := cb HB hx262_1; have HR262_1 := am hi262_1; have HC262_1 := am hl262_1; clear hi262_1 hl262_1; replace p262 := eq_true p262; replace q262 := eq_true q262
                         have p269 : 0 ≤ (x7_2 : Int) := pD
                         have q269 : x7_2 < (((rd_T54 l0 0).f2).length : Int) := pD
                         obtain ⟨ad269, A269_1, c269_1, e269, hx269_0, hx269_1, hl269_1, hi269_1⟩ := at_T80 HR261_2.out x7_2 p269 q269
                         have hw269_1 := hx269_1
                         have hw269_0 := hx269_0
                         obtain rfl : ad262 = ad269 := (by injection e269)
                         replace hx269_0 := cb HB hx269_0; replace hx269_1 := cb HB hx269_1; have HR269_1 := am hi269_1; have HC269_1 := am hl269_1; clear hi269_1 hl269_1; replace p269 := eq_true p269; replace q269 := eq_true q269
                         have ea_ := sj (hx262_1.symm.trans hx269_1)
                         injection ea_ with ea_ en_ ec_
                         subst ea_; subst ec_; clear en_
                         refine start_ (n := 22) (S := fun w' => w'.cell? ad216 = some (.int .i64 ((rd_T54 l0 0).f0)) ∧ w'.cell? ⟨ad216.block, ad216.off + 1, none⟩ = some (.slice A261_1 ((rd_T54 l0 0).f1).length c261_1) ∧ w'.cell? ⟨ad216.block, ad216.off + 2, none⟩ = some (.slice (some ad262) ((rd_T54 l0 0).f2).length c261_2) ∧ w'.cell? (ad262.add ((x7_2).toNat * 2)) = some (.int .i64 ((rd_T80 ((rd_T54 l0 0).f2) x7_2).f0)) ∧ w'.cell? ⟨(ad262.add ((x7_2).toNat * 2)).block, (ad262.add ((x7_2).toNat * 2)).off + 1, none⟩ = some (.slice A262_1 ((rd_T80 ((rd_T54 l0 0).f2) x7_2).f1).length c262_1) ∧ w'.cell? (ad262.add ((x7_2).toNat * 2)) = some (.int .i64 ((rd_T80 ((rd_T54 l0 0).f2) x7_2).f0)) ∧ w'.cell? ⟨(ad262.add ((x7_2).toNat * 2)).block, (ad262.add ((x7_2).toNat * 2)).off + 1, none⟩ = some (.slice A262_1 ((rd_T80 ((rd_T54 l0 0).f2) x7_2).f1).length c262_1)) (ds := []) #[false, false, false, false, false, false, false, false, false, false, false, false, false, false, false, false, false, false, false, false, false, false] (by kernel_rfl) rfl rfl ⟨(cb HB hw261_0), (cb HB hw261_1), (cb HB hw261_2), (cb HB hw262_0), (cb HB hw262_1), (cb HB hw269_0), (cb HB hw269_1)⟩ (fun hHeld => ?_); refine with_tabW spec_l3Pack_in.tab13 spec_l3Pack_in.bits13 (fun HT_ HW_ => ?_)
                         generalize wr.drew = w53 at HO_5 HB HR261_1 HR261_2 HR262_1 HR269_1 hx261_0 hx261_1 hx261_2 hx262_0 hx262_1 hx269_0 hx269_1 hHeld ⊢
                         refine rP 0 (some 82) #[true, false, false, false, false, false, false, false, false, false, false, false, false, false, false, false, false, false, false, false, false, false] (any_of HT_.out (by kernel_rfl)) ?_
                         refine rP 1 (some 83) #[true, true, false, false, false, false, false, false, false, false, false, false, false, false, false, false, false, false, false, false, false, false] (any_of HT_.out (by kernel_rfl)) ?_
                         refine rP 2 (some 84) #[true, true, true, false, false, false, false, false, false, false, false, false, false, false, false, false, false, false, false, false, false, false] (any_of HT_.out (by kernel_rfl)) ?_
                         refine rP 3 (some 85) #[true, true, true, true, false, false, false, false, false, false, false, false, false, false, false, false, false, false, false, false, false, false] (any_of HT_.out (by kernel_rfl)) ?_
                         refine rP 5 (some 87) #[true, true, true, true, false, true, false, false, false, false, false, false, false, false, false, false, false, false, false, false, false, false] (any_of HT_.out (by kernel_rfl)) ?_
                         refine rP 11 (some 93) #[true, true, true, true, false, true, false, false, false, false, false, true, false, false, false, false, false, false, false, false, false, false] (any_of HT_.out (by kernel_rfl)) ?_
                         refine rP 12 (some 94) #[true, true, true, true, false, true, false, false, false, false, false, true, true, false, false, false, false, false, false, false, false, false] (any_of HT_.out (by kernel_rfl)) ?_
                         refine rP 13 (some 95) #[true, true, true, true, false, true, false, false, false, false, false, true, true, true, false, false, false, false, false, false, false, false] (any_of HT_.out (by kernel_rfl)) ?_
                         refine rP 15 (some 97) #[true, true, true, true, false, true, false, false, false, false, false, true, true, true, false, true, false, false, false, false, false, false] (any_of HT_.out (by kernel_rfl)) ?_
                         refine rT 4 (some 86) #[true, true, true, true, true, true, false, false, false, false, false, true, true, true, false, true, false, false, false, false, false, false] (take_ofW HT_.out HW_.out (by kernel_rfl)) hHeld ?_
                         refine rP 6 (some 88) #[true, true, true, true, true, true, true, false, false, false, false, true, true, true, false, true, false, false, false, false, false, false] (any_of HT_.out (by kernel_rfl)) ?_
                         refine rP 7 (some 89) #[true, true, true, true, true, true, true, true, false, false, false, true, true, true, false, true, false, false, false, false, false, false] (any_of HT_.out (by kernel_rfl)) ?_
                         refine rT 8 (some 90) #[true, true, true, true, true, true, true, true, true, false, false, true, true, true, false, true, false, false, false, false, false, false] (take_ofW HT_.out HW_.out (by kernel_rfl)) hHeld ?_
                         refine rT 14 (some 96) #[true, true, true, true, true, true, true, true, true, false, false, true, true, true, true, true, false, false, false, false, false, false] (take_ofW HT_.out HW_.out (by kernel_rfl)) hHeld ?_
                         refine rP 16 (some 98) #[true, true, true, true, true, true, true, true, true, false, false, true, true, true, true, true, true, false, false, false, false, false] (any_of HT_.out (by kernel_rfl)) ?_
                         refine rP 17 (some 99) #[true, true, true, true, true, true, true, true, true, false, false, true, true, true, true, true, true, true, false, false, false, false] (any_of HT_.out (by kernel_rfl)) ?_
                         refine rT 18 (some 100) #[true, true, true, true, true, true, true, true, true, false, false, true, true, true, true, true, true, true, true, false, false, false] (take_ofW HT_.out HW_.out (by kernel_rfl)) hHeld ?_
                         refine one_ (i := 9) (N := some 91) #[true, true, true, true, true, true, true, true, true, true, false, true, true, true, true, true, true, true, true, false, false, false] rfl rfl (one_of HT_.out (by kernel_rfl)) (by decide) (fun K hK => ?_)
                         refine goes_ Try.func82 (by kernel_rfl) rfl #[.int .i64 ((rd_T80 ((rd_T54 l0 0).f2) x7_2).f0)] (by rfl) rfl rfl pA ?_
                         with_reducible refine (spec_l3Big.calls ((rd_T80 ((rd_T54 l0 0).f2) x7_2).f0) t263 _ A49.out).mono ?_
                         rintro e w54 ⟨v264, rfl, ho0, hb⟩
                         refine ⟨_, rfl, ?_⟩
                         have n_ := t3 (rE (pR HO_5) (rB ho0) hb) (rL (rW ho0 (Kd.R_lt (pR HO_5))) (bs_ pB)) (bz_ pB hb)
                         clear HO_5 HB; obtain ⟨HO_5, HO265, HB⟩ := n_; (try clear hb); (try clear hb2); (try clear hk); (try clear hi); (try clear ho0)
                         obtain ⟨Ao56, co56, eo56⟩ := rS HO265.out
                         (first | subst eo56 | (injection eo56 with f1_ f2_ f3_; have f4_ := f1_.symm; have f5_ := f3_.symm; clear f1_ f2_ f3_; subst f4_; subst f5_))
                         refine hK.out _ _ ⟨(cb HB hw261_0), (cb HB hw261_1), (cb HB hw261_2), (cb HB hw262_0), (cb HB hw262_1), (cb HB hw269_0), (cb HB hw269_1)⟩ (fun hHeld => ?_)
                         clear hK K
                         refine rN ?_
                         refine one_ (i := 10) (N := some 92) #[true, true, true, true, true, true, true, true, true, true, true, true, true, true, true, true, true, true, true, false, false, false] rfl rfl (one_of HT_.out (by kernel_rfl)) (by decide) (fun K hK => ?_)
                         refine Kd.R_append_rows_step (Kd.int .u8) (w0 := w) w.heap.size (by rfl) (.tmp 82) (.tmp 91) 71 5 (.int .u8 0) 1 rfl Try.underlying71 info5 rfl (by decide) (by omega) u5 x5_2 t263 _ _ _ (fun k_ => some k_ ≠ (.slice Ao56 t263.length co56 : Value).ownBlock) (fun _ => False) rfl rfl ?aO ?aR (fun _ _ h => h) (fun _ h => h.elim) ?aF ?aB ?aS ?aL ?_
                         (case aR => exact pC (rr HO265.out).2.2)
                         (case aB => exact pB)
                         (case aF => exact (fun k_ hk => Kd.fresh' (Kd.R_lt (pR HO265)) k_ hk))
                         (case aO => exact (pT (Kd.R_mono HO_5.out (fun _ hk => hk.2))))
                         (case aS => exact (bs_ pB))
                         (case aL => have := LMc50.out; omega)
                         intro v267 w55 ho hb hg hat
                         rw [← Ny266.out] at ho
                         have n_ := t3 (Kd.R_after (ok := (fun _ => True)) (pR HO265) hg hat) (hb) (ho)
                         clear HO265 HB HO_5; obtain ⟨HO265, HB, HO268⟩ := n_; clear ho hb hg hat
                         refine hK.out _ _ ⟨(cb HB hw261_0), (cb HB hw261_1), (cb HB hw261_2), (cb HB hw262_0), (cb HB hw262_1), (cb HB hw269_0), (cb HB hw269_1)⟩ (fun hHeld => ?_)
                         clear hK K
                         refine rN ?_
                         refine one_ (i := 19) (N := some 101) #[true, true, true, true, true, true, true, true, true, true, true, true, true, true, true, true, true, true, true, true, false, false] rfl rfl (one_of HT_.out (by kernel_rfl)) (by decide) (fun K hK => ?_)
                         refine goes_ Try.func83 (by kernel_rfl) rfl #[.slice A262_1 ((rd_T80 ((rd_T54 l0 0).f2) x7_2).f1).length c262_1] (by rfl) rfl rfl pA ?_
                         with_reducible refine (spec_l3List.calls k2 _ _ ((rd_T80 ((rd_T54 l0 0).f2) x7_2).f1) t270 _ ?side1 ?side2 A51.out).mono ?_
                         (case side1 => exact pC (Kd.C_below HR269_1.out HB.out))
                         (case side2 => exact HC269_1.out)
                         rintro e w57 ⟨v271, rfl, ho0, hb⟩
                         refine ⟨_, rfl, ?_⟩
                         have n_ := t4 (rE (pR HO265) (rB ho0) hb) (rE (pR HO268) (rB ho0) hb) (rL (rW (rW ho0 (Kd.R_lt (pR HO265))) (Kd.R_lt (pR HO268))) (bs_ pB)) (bz_ pB hb)
                         clear HO265 HO268 HB; obtain ⟨HO265, HO268, HO272, HB⟩ := n_; (try clear hb); (try clear hb2); (try clear hk); (try clear hi); (try clear ho0)
                         obtain ⟨Ao59, co59, eo59⟩ := rS HO272.out
                         (first | subst eo59 | (injection eo59 with f1_ f2_ f3_; have f4_ := f1_.symm; have f5_ := f3_.symm; clear f1_ f2_ f3_; subst f4_; subst f5_))
                         refine hK.out _ _ ⟨(cb HB hw261_0), (cb HB hw261_1), (cb HB hw261_2), (cb HB hw262_0), (cb HB hw262_1), (cb HB hw269_0), (cb HB hw269_1)⟩ (fun hHeld => ?_)
                         clear hK K
                         refine rN ?_
                         refine one_ (i := 20) (N := some 102) #[true, true, true, true, true, true, true, true, true, true, true, true, true, true, true, true, true, true, true, true, true, false] rfl rfl (one_of HT_.out (by kernel_rfl)) (by decide) (fun K hK => ?_)
                         refine Kd.R_append_rows_step (Kd.int .u8) (w0 := w) w.heap.size (by rfl) (.tmp 92) (.tmp 101) 71 5 (.int .u8 0) 1 rfl Try.underlying71 info5 rfl (by decide) (by omega) v267 y266 t270 _ _ _ (fun k_ => some k_ ≠ (.slice Ao56 t263.length co56 : Value).ownBlock ∧ some k_ ≠ (.slice Ao59 t270.length co59 : Value).ownBlock) (fun _ => False) rfl rfl ?aO ?aR (fun _ _ h => h) (fun _ h => h.elim) ?aF ?aB ?aS ?aL ?_
                         (case aR => exact pC (rr HO272.out).2.2)
                         (case aB => exact pB)
                         (case aF => exact (fun k_ hk => ⟨Kd.fresh' (Kd.R_lt (pR HO265)) k_ hk, Kd.fresh' (Kd.R_lt (pR HO272)) k_ hk⟩))
                         (case aO => exact (pR HO268))
                         (case aS => exact (bs_ pB))
                         (case aL => have := LMc52.out; omega)
                         intro v274 w58 ho hb hg hat
                         rw [← Ny273.out] at ho
                         have n_ := t4 (Kd.R_after (ok := (fun k_ => some k_ ≠ (.slice Ao59 t270.length co59 : Value).ownBlock)) (pT (Kd.R_mono HO265.out (fun _ hk => ⟨hk.2, hk.1.2⟩))) hg hat) (Kd.R_after (ok := (fun k_ => some k_ ≠ (.slice Ao56 t263.length co56 : Value).ownBlock)) (pT (Kd.R_mono HO272.out (fun _ hk => ⟨hk.1.2, hk.2⟩))) hg hat) (hb) (ho)
                         clear HO265 HO272 HB HO268; obtain ⟨HO265, HO272, HB, HO275⟩ := n_; clear ho hb hg hat
                         refine hK.out _ _ ⟨(cb HB hw261_0), (cb HB hw261_1), (cb HB hw261_2), (cb HB hw262_0), (cb HB hw262_1), (cb HB hw269_0), (cb HB hw269_1)⟩ (fun hHeld => ?_)
                         clear hK K
                         refine rN ?_
                         refine rP 21 (some 5) #[true, true, true, true, true, true, true, true, true, true, true, true, true, true, true, true, true, true, true, true, true, true] (any_of HT_.out (by kernel_rfl)) ?_
                         refine done_ (done_of HT_.out (by kernel_rfl)) ?_
                         try go_wp2
                         go_roundg k2
                         case measure => have := HK1.out; have := HK2.out; omega
                         case rel => exact ⟨(y273), (wrap64 (x7_2 + 1)), pF, H', ⟨by have := HK1.out; have := HK2.out; omega⟩, ⟨(pT (Kd.R_mono HO275.out (fun _ hk => trivial)))⟩, ⟨pB⟩⟩
                       · rw [if_neg c52] at H
                         exact absurd H (by simp)
                     · rw [if_neg c50] at H
                       exact absurd H (by simp)
                   · rw [if_neg c48] at H
                     exact absurd H (by simp)
                 · rw [if_neg c47] at H
                   have c47b0 : decide (x7_2 < (((rd_T54 l0 0).f2).length : Int)) = false := decide_eq_false c47
                   clear c47
                   obtain rfl := sj H
                   have p260 : 0 ≤ (0 : Int) := (by omega)
                   have q260 : 0 < (l0.length : Int) := pD
                   obtain ⟨ad260, A260_1, c260_1, A260_2, c260_2, e260, hx260_0, hx260_1, hx260_2, hl260_1, hi260_1, hl260_2, hi260_2⟩ := at_T54 HR0.out 0 p260 q260
                   obtain rfl : ad216 = ad260 := (by injection e260)
                   have qi260 : (0 < l0.length) = True := eq_true (by omega)
                   (try rw [z0, zm, az] at hx260_0); (try rw [z0, zm, az] at hx260_1); (try rw [z0, zm, az] at hx260_2); replace hx260_0 := cb HB hx260_0; replace hx260_1 := cb HB hx260_1; replace hx260_2 := cb HB hx260_2; have HR260_1 := am hi260_1; have HC260_1 := am hl260_1; clear hi260_1 hl260_1; have HR260_2 := am hi260_2; have HC260_2 := am hl260_2; clear hi260_2 hl260_2; replace p260 := eq_true p260; replace q260 := eq_true q260
                   go_wp2
                   go_ret
                   exact ⟨_, pE, (pR HO_5), pB⟩
               · rw [if_neg c46] at H
                 exact absurd H (by simp)
           · rw [if_neg c42] at H
             exact absurd H (by simp)
       · rw [if_neg c12] at H
         exact absurd H (by simp)
   · rw [if_neg c6] at H
     exact absurd H (by simp)
 · rw [if_neg c3] at H
   exact absurd H (by simp)
end Go.Proofs.Ytjmdfghljlmfmaa.QFnExactHeaderSum
