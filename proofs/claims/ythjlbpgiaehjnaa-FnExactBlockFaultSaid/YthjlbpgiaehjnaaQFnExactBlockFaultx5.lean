-- written by this session's program (wip/tools/myprint.py)
import Derived.Test.YthjlbpgiaehjnaaQFnExactBlockFaultx0
import Derived.Test.YthjlbpgiaehjnaaQFnExactBlockFaultx3
import Derived.Test.YthjlbpgiaehjnaaQFnExactBlockFaultx4
-- squeezed
namespace Go.Proofs.Ythjlbpgiaehjnaa.QFnExactBlockFault
open Go.RowKit Go.Proofs.YthjlbpgiaehjnaaW.PrintWords Go.Proofs.YthjlbpgiaehjnaaW.PrintLast Go.Proofs.YthjlbpgiaehjnaaW.PrintMore
attribute [local go_sem] max2_int min2_int max_two min_two max_three min_three max_four min_four   -- for this text's walks alone
set_option linter.unusedVariables false
set_option linter.unusedSimpArgs false
set_option maxHeartbeats 8000000
set_option maxRecDepth 100000
mutual
def spec_l3Pack_in.l0 : Nat → List (S27) → Bool → List Int → Int → Option (List Int)
 | 0, _, _, _, _ => none
 | k + 1, x0, x1, x5, x6 => if 0 < (x0.length : Int) then (if x6 < (((rd_T27 x0 0).f1).length : Int) then (if 0 ≤ x6 then ((spec_l3Big.f ((rd_T34 ((rd_T27 x0 0).f1) x6).f0)).bind fun t187 => (if x5.length + t187.length < 140737488355328 then ((some (x5 ++ t187 : List Int)).bind fun y190 => ((spec_l3Put.f ((rd_T34 ((rd_T27 x0 0).f1) x6).f1)).bind fun t194 => (if y190.length + t194.length < 140737488355328 then ((some (y190 ++ t194 : List Int)).bind fun y197 => (if x1 = true then ((spec_l3List.f k ((rd_T34 ((rd_T27 x0 0).f1) x6).f2)).bind fun t202 => (if y197.length + t202.length < 140737488355328 then (spec_l3Pack_in.l0 k x0 x1 (y197 ++ t202) (wrap64 (x6 + 1))) else (none))) else (if y197.length < 140737488355328 then (spec_l3Pack_in.l0 k x0 x1 (y197 ++ [0]) (wrap64 (x6 + 1))) else (none)))) else (none)))) else (none))) else (none)) else ((spec_l3Put.f (((rd_T27 x0 0).f2).length : Int)).bind fun t212 => (if x5.length + t212.length < 140737488355328 then (spec_l3Pack_in.l1 k x0 (x5 ++ t212) 0) else (none)))) else (none)
def spec_l3Pack_in.l1 : Nat → List (S27) → List Int → Int → Option (List Int)
 | 0, _, _, _ => none
 | k + 1, x0, x5, x7 => if 0 < (x0.length : Int) then (if x7 < (((rd_T27 x0 0).f2).length : Int) then (if 0 ≤ x7 then ((spec_l3Big.f ((rd_T86 ((rd_T27 x0 0).f2) x7).f0)).bind fun t221 => (if x5.length + t221.length < 140737488355328 then ((some (x5 ++ t221 : List Int)).bind fun y224 => ((spec_l3List.f k ((rd_T86 ((rd_T27 x0 0).f2) x7).f1)).bind fun t228 => (if y224.length + t228.length < 140737488355328 then (spec_l3Pack_in.l1 k x0 (y224 ++ t228) (wrap64 (x7 + 1))) else (none)))) else (none))) else (none)) else (some x5)) else (none)
end
def spec_l3Pack_in.f (k : Nat) (l0 : List (S27)) (a1 : Bool) : Option (List Int) := if 0 < (l0.length : Int) then ((spec_l3Put.f ((rd_T27 l0 0).f0)).bind fun t175 => ((spec_l3Put.f (((rd_T27 l0 0).f1).length : Int)).bind fun t178 => (if t175.length + t178.length < 140737488355328 then (spec_l3Pack_in.l0 k l0 a1 (t175 ++ t178) 0) else (none)))) else (none)
theorem spec_l3Pack_in.mono_l : ∀ k, (∀ y0 y1 y2 y3, LeO (spec_l3Pack_in.l0 k y0 y1 y2 y3) (spec_l3Pack_in.l0 (k + 1) y0 y1 y2 y3)) ∧ (∀ y0 y1 y2, LeO (spec_l3Pack_in.l1 k y0 y1 y2) (spec_l3Pack_in.l1 (k + 1) y0 y1 y2))
 | 0 => ⟨fun _ _ _ _ r h => by simp [spec_l3Pack_in.l0] at h, fun _ _ _ r h => by simp [spec_l3Pack_in.l1] at h⟩
 | k + 1 => by
  obtain ⟨ih0, ih1⟩ := spec_l3Pack_in.mono_l k
  refine ⟨?_, ?_⟩
  · intro y0 y1 y2 y3
    unfold spec_l3Pack_in.l0
    repeat' with_reducible first | exact ih0 _ _ _ _ | exact ih1 _ _ _ | exact spec_l3List.mono _ _ | exact LeO.refl _ | exact LeO.none _ | refine LeO.ite ?_ ?_ | refine LeO.bind ?_ (fun _ => ?_)
  · intro y0 y1 y2
    unfold spec_l3Pack_in.l1
    repeat' with_reducible first | exact ih0 _ _ _ _ | exact ih1 _ _ _ | exact spec_l3List.mono _ _ | exact LeO.refl _ | exact LeO.none _ | refine LeO.ite ?_ ?_ | refine LeO.bind ?_ (fun _ => ?_)
theorem spec_l3Pack_in.mono : ∀ a0 a1 k, LeO (spec_l3Pack_in.f k a0 a1) (spec_l3Pack_in.f (k + 1) a0 a1) := by
 intro a0 a1 k
 obtain ⟨ih0, ih1⟩ := spec_l3Pack_in.mono_l k
 unfold spec_l3Pack_in.f
 repeat' with_reducible first | exact ih0 _ _ _ _ | exact ih1 _ _ _ | exact spec_l3List.mono _ _ | exact LeO.refl _ | exact LeO.none _ | refine LeO.ite ?_ ?_ | refine LeO.bind ?_ (fun _ => ?_)
def spec_l3Pack_in.T1 : Bool × List (List Nat × List Nat) := (true, [([], []), ([0], [0]), ([1], [1]), ([2], [2]), ([3], [3]), ([], []), ([5], [5]), ([6], [6]), ([7], [7]), ([8], [8]), ([9, 4], [9]), ([4, 10, 10], [4, 10]), ([11, 11, 0, 1, 2, 3, 4, 5, 6, 7, 8, 9, 10, 11], [11])])
def spec_l3Pack_in.B1 : List Nat := [0, 1, 3, 7, 15, 0, 32, 96, 224, 480, 1023, 2047, 4095]
theorem spec_l3Pack_in.tab1 : rtab .any (opsOf Try.f71 1) = spec_l3Pack_in.T1 := by kernel_rfl
theorem spec_l3Pack_in.bits1 : waitsOk spec_l3Pack_in.T1.2 spec_l3Pack_in.B1 = true := by kernel_rfl
def spec_l3Pack_in.T5 : Bool × List (List Nat × List Nat) := (true, [([], []), ([], []), ([1], [1]), ([2], [2]), ([3], [3]), ([], []), ([4, 5], [4, 5]), ([6], [6]), ([7], [7]), ([8], [8]), ([0, 9, 9], [0, 9]), ([], []), ([11], [11]), ([12], [12]), ([13], [13]), ([], []), ([14, 15], [14, 15]), ([16], [16]), ([17], [17]), ([18, 10], [18]), ([10, 19, 19], [10, 19]), ([20, 20, 0, 1, 2, 3, 4, 5, 6, 7, 8, 9, 10, 11, 12, 13, 14, 15, 16, 17, 18, 19, 20], [0, 20])])
def spec_l3Pack_in.B5 : List Nat := [0, 0, 2, 6, 14, 0, 62, 126, 254, 510, 1023, 0, 2048, 6144, 14336, 0, 63488, 129024, 260096, 524287, 1048575, 2097151]
theorem spec_l3Pack_in.tab5 : rtab .any (opsOf Try.f71 5) = spec_l3Pack_in.T5 := by kernel_rfl
theorem spec_l3Pack_in.bits5 : waitsOk spec_l3Pack_in.T5.2 spec_l3Pack_in.B5 = true := by kernel_rfl
def spec_l3Pack_in.T13 : Bool × List (List Nat × List Nat) := (true, [([], []), ([], []), ([1], [1]), ([2], [2]), ([3], [3]), ([], []), ([4, 5], [4, 5]), ([6], [6]), ([7], [7]), ([8], [8]), ([0, 9, 9], [0, 9]), ([], []), ([11], [11]), ([12], [12]), ([13], [13]), ([], []), ([14, 15], [14, 15]), ([16], [16]), ([17], [17]), ([18, 10], [18]), ([10, 19, 19], [10, 19]), ([20, 20, 0, 1, 2, 3, 4, 5, 6, 7, 8, 9, 10, 11, 12, 13, 14, 15, 16, 17, 18, 19, 20], [0, 20])])
def spec_l3Pack_in.B13 : List Nat := [0, 0, 2, 6, 14, 0, 62, 126, 254, 510, 1023, 0, 2048, 6144, 14336, 0, 63488, 129024, 260096, 524287, 1048575, 2097151]
theorem spec_l3Pack_in.tab13 : rtab .any (opsOf Try.f71 13) = spec_l3Pack_in.T13 := by kernel_rfl
theorem spec_l3Pack_in.bits13 : waitsOk spec_l3Pack_in.T13.2 spec_l3Pack_in.B13 = true := by kernel_rfl
theorem spec_l3Pack_in.calls (k : Nat) (A0 : Option Addr) (c0 : Nat) (l0 : List (S27)) (a1 : Bool) (r : List Int) (w : World) (hr0 : Kd.C k27 w A0 l0.length l0) (hc0 : l0.length ≤ c0) (h : spec_l3Pack_in.f k l0 a1 = some r) :
 Calls Try.prog 71 #[.pointer A0, .bool a1] w fun e w' => ∃ v0_ : Value, e = .returned (v0_) ∧ Kd.R (Kd.int .u8) 5 w' w.heap.size (fun _ => True) v0_ r ∧ Below w.heap.size w w' := by
 have HR0 := Aside0.mk hr0; have HC0 := Aside0.mk hc0; clear hr0 hc0
 have HB := Aside0.mk (Below.refl w.heap.size w)
 have H : (if 0 < (l0.length : Int) then ((spec_l3Put.f ((rd_T27 l0 0).f0)).bind fun t175 => ((spec_l3Put.f (((rd_T27 l0 0).f1).length : Int)).bind fun t178 => (if t175.length + t178.length < 140737488355328 then (spec_l3Pack_in.l0 k l0 a1 (t175 ++ t178) 0) else (none)))) else (none)) = some r := h
 clear h
 by_cases c3 : 0 < (l0.length : Int)
 · rw [if_pos c3] at H
   have c3b0 : decide (0 < (l0.length : Int)) = true := decide_eq_true c3
   have c3b1 : decide (0 < l0.length) = true := decide_eq_true (by omega)
   clear c3
   obtain ⟨t175, A40, H⟩ := bO H
   replace H : ((spec_l3Put.f (((rd_T27 l0 0).f1).length : Int)).bind fun t178 => (if t175.length + t178.length < 140737488355328 then (spec_l3Pack_in.l0 k l0 a1 (t175 ++ t178) 0) else (none))) = some r := H
   have A4 := Aside0.mk A40; clear A40
   obtain ⟨t178, A50, H⟩ := bO H
   replace H : (if t175.length + t178.length < 140737488355328 then (spec_l3Pack_in.l0 k l0 a1 (t175 ++ t178) 0) else (none)) = some r := H
   have A5 := Aside0.mk A50; clear A50
   by_cases c6 : t175.length + t178.length < 140737488355328
   · rw [if_pos c6] at H
     have LMc6 := Aside0.mk c6; clear c6
     obtain ⟨y181, hy181⟩ : ∃ y_ : List Int, y_ = (t175 ++ t178) := ⟨_, rfl⟩
     replace H : (spec_l3Pack_in.l0 k l0 a1 y181 0) = some r := by first | (rw [hy181]; with_reducible exact H) | (have H2_ := (Option.bind_some _ _).symm.trans H; rw [hy181]; with_reducible exact H2_) | (have H2_ := (Option.bind_some _ _).symm.trans H; with_reducible exact H2_) | with_reducible exact H | (rw [hy181]; exact H) | exact H
     have Ny181 := Aside0.mk hy181; clear hy181
     have H' := Aside0.mk H
     clear H
     go_enter Try.func71, Try.ntmps71
     try go_wp2
     have n_ := am (below_drew1 HB.out)
     clear HB; have HB := n_; clear n_
     have p174 : 0 ≤ (0 : Int) := (by omega)
     have q174 : 0 < (l0.length : Int) := pD
     obtain ⟨ad174, A174_1, c174_1, A174_2, c174_2, e174, hx174_0, hx174_1, hx174_2, hl174_1, hi174_1, hl174_2, hi174_2⟩ := at_T27 HR0.out 0 p174 q174
     have hw174_2 := hx174_2
     (try rw [z0] at hw174_2); (try rw [Nat.zero_mul] at hw174_2); (try rw [Addr.add_zero'] at hw174_2)
     have hw174_1 := hx174_1
     (try rw [z0] at hw174_1); (try rw [Nat.zero_mul] at hw174_1); (try rw [Addr.add_zero'] at hw174_1)
     have hw174_0 := hx174_0
     (try rw [z0] at hw174_0); (try rw [Nat.zero_mul] at hw174_0); (try rw [Addr.add_zero'] at hw174_0); cases e174
     have qi174 : (0 < l0.length) = True := eq_true (by omega)
     (try rw [z0] at hx174_0); (try rw [Nat.zero_mul] at hx174_0); (try rw [Addr.add_zero'] at hx174_0); (try rw [z0] at hx174_1); (try rw [Nat.zero_mul] at hx174_1); (try rw [Addr.add_zero'] at hx174_1); (try rw [z0] at hx174_2); (try rw [Nat.zero_mul] at hx174_2); (try rw [Addr.add_zero'] at hx174_2); replace hx174_0 := cb HB hx174_0; replace hx174_1 := cb HB hx174_1; replace hx174_2 := cb HB hx174_2; have HR174_1 := Aside0.mk hi174_1; have HC174_1 := Aside0.mk hl174_1; clear hi174_1 hl174_1; have HR174_2 := Aside0.mk hi174_2; have HC174_2 := Aside0.mk hl174_2; clear hi174_2 hl174_2; replace p174 := eq_true p174; replace q174 := eq_true q174
     refine start_ (n := 13) (S := fun w' => w'.cell? ad174 = some (.int .i64 ((rd_T27 l0 0).f0)) ∧ w'.cell? ⟨ad174.block, ad174.off + 1, none⟩ = some (.slice A174_1 ((rd_T27 l0 0).f1).length c174_1) ∧ w'.cell? ⟨ad174.block, ad174.off + 2, none⟩ = some (.slice A174_2 ((rd_T27 l0 0).f2).length c174_2)) (ds := []) #[false, false, false, false, false, false, false, false, false, false, false, false, false] (by kernel_rfl) rfl rfl ⟨(cb HB hw174_0), (cb HB hw174_1), (cb HB hw174_2)⟩ (fun hHeld => ?_); refine with_tabW spec_l3Pack_in.tab1 spec_l3Pack_in.bits1 (fun HT_ HW_ => ?_)
     generalize w.drew = w7 at HB HR174_1 HR174_2 hx174_0 hx174_1 hx174_2 hHeld ⊢
     refine rP 0 (some 8) #[true, false, false, false, false, false, false, false, false, false, false, false, false] (any_of HT_.out (by kernel_rfl)) ?_
     refine rP 1 (some 9) #[true, true, false, false, false, false, false, false, false, false, false, false, false] (any_of HT_.out (by kernel_rfl)) ?_
     refine rP 2 (some 10) #[true, true, true, false, false, false, false, false, false, false, false, false, false] (any_of HT_.out (by kernel_rfl)) ?_
     refine rP 5 (some 13) #[true, true, true, false, false, true, false, false, false, false, false, false, false] (any_of HT_.out (by kernel_rfl)) ?_
     refine rP 6 (some 14) #[true, true, true, false, false, true, true, false, false, false, false, false, false] (any_of HT_.out (by kernel_rfl)) ?_
     refine rP 7 (some 15) #[true, true, true, false, false, true, true, true, false, false, false, false, false] (any_of HT_.out (by kernel_rfl)) ?_
     refine rT 3 (some 11) #[true, true, true, true, false, true, true, true, false, false, false, false, false] (take_ofW HT_.out HW_.out (by kernel_rfl)) hHeld ?_
     refine rT 8 (some 16) #[true, true, true, true, false, true, true, true, true, false, false, false, false] (take_ofW HT_.out HW_.out (by kernel_rfl)) hHeld ?_
     refine rP 9 (some 17) #[true, true, true, true, false, true, true, true, true, true, false, false, false] (any_of HT_.out (by kernel_rfl)) ?_
     refine one_ (i := 4) (N := some 12) #[true, true, true, true, true, true, true, true, true, true, false, false, false] rfl rfl (one_of HT_.out (by kernel_rfl)) (by decide) (fun K hK => ?_)
     refine goes_ Try.func80 (by kernel_rfl) rfl #[.int .i64 ((rd_T27 l0 0).f0)] (by rfl) rfl rfl pA ?_
     with_reducible refine (spec_l3Put.calls ((rd_T27 l0 0).f0) t175 _ A4.out).mono ?_
     rintro e w8 ⟨v176, rfl, ho0, hb⟩
     refine ⟨_, rfl, ?_⟩
     have n_ := t2 (Kd.R_lower ho0 (below_size pB)) (below_step pB hb)
     clear HB; obtain ⟨HO177, HB⟩ := n_; (try clear hb); (try clear hb2); (try clear hk); (try clear hi); (try clear ho0)
     refine hK.out _ _ ⟨(cb HB hw174_0), (cb HB hw174_1), (cb HB hw174_2)⟩ (fun hHeld => ?_)
     clear hK K
     refine rN ?_
     refine one_ (i := 10) (N := some 18) #[true, true, true, true, true, true, true, true, true, true, true, false, false] rfl rfl (one_of HT_.out (by kernel_rfl)) (by decide) (fun K hK => ?_)
     refine goes_ Try.func80 (by kernel_rfl) rfl #[.int .i64 (((rd_T27 l0 0).f1).length : Int)] (by rfl) rfl rfl pA ?_
     with_reducible refine (spec_l3Put.calls (((rd_T27 l0 0).f1).length : Int) t178 _ A5.out).mono ?_
     rintro e w9 ⟨v179, rfl, ho0, hb⟩
     refine ⟨_, rfl, ?_⟩
     have n_ := t3 (Kd.R_elder' (pR HO177) (Kd.R_base ho0) hb) (Kd.R_lower (Kd.R_new' ho0 (Kd.R_lt (pR HO177))) (below_size pB)) (below_step pB hb)
     clear HO177 HB; obtain ⟨HO177, HO180, HB⟩ := n_; (try clear hb); (try clear hb2); (try clear hk); (try clear hi); (try clear ho0)
     obtain ⟨Ao11, co11, eo11⟩ := Kd.R_slice HO180.out
     (first | subst eo11 | (injection eo11 with f1_ f2_ f3_; have f4_ := f1_.symm; have f5_ := f3_.symm; clear f1_ f2_ f3_; subst f4_; subst f5_))
     refine hK.out _ _ ⟨(cb HB hw174_0), (cb HB hw174_1), (cb HB hw174_2)⟩ (fun hHeld => ?_)
     clear hK K
     refine rN ?_
     refine one_ (i := 11) (N := some 19) #[true, true, true, true, true, true, true, true, true, true, true, true, false] rfl rfl (one_of HT_.out (by kernel_rfl)) (by decide) (fun K hK => ?_)
     refine Kd.R_append_rows_step (Kd.int .u8) (w0 := w) w.heap.size (by rfl) (.tmp 12) (.tmp 18) 22 5 (.int .u8 0) 1 rfl Try.underlying22 info5 rfl (by decide) (by omega) v176 t175 t178 _ _ _ (fun k_ => some k_ ≠ (.slice Ao11 t178.length co11 : Value).ownBlock) (fun _ => False) rfl rfl ?aO ?aR (fun _ _ h => h) (fun _ h => h.elim) ?aF ?aB ?aS ?aL ?_
     (case aR => exact pC (Kd.R_reads' HO180.out).2.2)
     (case aB => exact pB)
     (case aF => exact (fun k_ hk => Kd.fresh' (Kd.R_lt (pR HO180)) k_ hk))
     (case aO => exact (pT (Kd.R_mono HO177.out (fun _ hk => hk.2))))
     (case aS => exact (below_size pB))
     (case aL => have := LMc6.out; omega)
     intro v182 w10 ho hb hg hat
     rw [← Ny181.out] at ho
     have n_ := t3 (Kd.R_after (ok := (fun _ => True)) (pR HO180) hg hat) (hb) (ho)
     clear HO180 HB HO177; obtain ⟨HO180, HB, HO183⟩ := n_; clear ho hb hg hat
     refine hK.out _ _ ⟨(cb HB hw174_0), (cb HB hw174_1), (cb HB hw174_2)⟩ (fun hHeld => ?_)
     clear hK K
     refine rN ?_
     refine rP 12 (some 5) #[true, true, true, true, true, true, true, true, true, true, true, true, true] (any_of HT_.out (by kernel_rfl)) ?_
     refine done_ (done_of HT_.out (by kernel_rfl)) ?_
     try go_wp2
     go_loopg [5, 6] k (fun kq v5 v6 w' => ∃ (x5_1 : List Int) (x6_1 : Int), v6 = .int .i64 x6_1 ∧ Aside0 (spec_l3Pack_in.l0 kq l0 a1 x5_1 x6_1 = some r) ∧ Aside0 (kq ≤ k) ∧ Aside0 (Kd.R (Kd.int .u8) 5 w' w.heap.size (fun _ => True) v5 x5_1) ∧ Aside0 (Below w.heap.size w w'))
     case atStart => exact ⟨(y181), (0), pF, H', ⟨Nat.le_refl _⟩, ⟨(pT (Kd.R_mono HO183.out (fun _ hk => trivial)))⟩, ⟨pB⟩⟩
     case round =>
      clear H'
      (try clear c1); (try clear p1); (try clear q1); (try clear hx1); (try clear qi1); (try clear p2); (try clear c3); (try clear c3b0); (try clear c3b1); (try clear c6); (try clear c8); (try clear hx174_0); (try clear hx174_1); (try clear hx174_2); (try clear p174); (try clear q174)
      obtain ⟨x5_1, x6_1, rfl, HA, HK1, HO_5, HB⟩ := hrel
      cases gk with
      | zero => exact absurd HA.out (by simp [spec_l3Pack_in.l0])
      | succ k1 =>
       have H := HA.out
       clear HA
       simp only [spec_l3Pack_in.l0] at H
       by_cases c12 : 0 < (l0.length : Int)
       · rw [if_pos c12] at H
         have c12b0 : decide (0 < (l0.length : Int)) = true := decide_eq_true c12
         have c12b1 : decide (0 < l0.length) = true := decide_eq_true (by omega)
         clear c12
         by_cases c13 : x6_1 < (((rd_T27 l0 0).f1).length : Int)
         · rw [if_pos c13] at H
           have c13b0 : decide (x6_1 < (((rd_T27 l0 0).f1).length : Int)) = true := decide_eq_true c13
           clear c13
           by_cases c14 : 0 ≤ x6_1
           · rw [if_pos c14] at H
             have c14b0 : decide (0 ≤ x6_1) = true := decide_eq_true c14
             clear c14
             obtain ⟨t187, A150, H⟩ := bO H
             replace H : (if x5_1.length + t187.length < 140737488355328 then ((some (x5_1 ++ t187 : List Int)).bind fun y190 => ((spec_l3Put.f ((rd_T34 ((rd_T27 l0 0).f1) x6_1).f1)).bind fun t194 => (if y190.length + t194.length < 140737488355328 then ((some (y190 ++ t194 : List Int)).bind fun y197 => (if a1 = true then ((spec_l3List.f k1 ((rd_T34 ((rd_T27 l0 0).f1) x6_1).f2)).bind fun t202 => (if y197.length + t202.length < 140737488355328 then (spec_l3Pack_in.l0 k1 l0 a1 (y197 ++ t202) (wrap64 (x6_1 + 1))) else (none))) else (if y197.length < 140737488355328 then (spec_l3Pack_in.l0 k1 l0 a1 (y197 ++ [0]) (wrap64 (x6_1 + 1))) else (none)))) else (none)))) else (none)) = some r := H
             have A15 := Aside0.mk A150; clear A150
             by_cases c16 : x5_1.length + t187.length < 140737488355328
             · rw [if_pos c16] at H
               have LMc16 := Aside0.mk c16; clear c16
               obtain ⟨y190, hy190⟩ : ∃ y_ : List Int, y_ = (x5_1 ++ t187) := ⟨_, rfl⟩
               replace H : ((spec_l3Put.f ((rd_T34 ((rd_T27 l0 0).f1) x6_1).f1)).bind fun t194 => (if y190.length + t194.length < 140737488355328 then ((some (y190 ++ t194 : List Int)).bind fun y197 => (if a1 = true then ((spec_l3List.f k1 ((rd_T34 ((rd_T27 l0 0).f1) x6_1).f2)).bind fun t202 => (if y197.length + t202.length < 140737488355328 then (spec_l3Pack_in.l0 k1 l0 a1 (y197 ++ t202) (wrap64 (x6_1 + 1))) else (none))) else (if y197.length < 140737488355328 then (spec_l3Pack_in.l0 k1 l0 a1 (y197 ++ [0]) (wrap64 (x6_1 + 1))) else (none)))) else (none))) = some r := by first | (rw [hy190]; with_reducible exact H) | (have H2_ := (Option.bind_some _ _).symm.trans H; rw [hy190]; with_reducible exact H2_) | (have H2_ := (Option.bind_some _ _).symm.trans H; with_reducible exact H2_) | with_reducible exact H | (rw [hy190]; exact H) | exact H
               have Ny190 := Aside0.mk hy190; clear hy190
               obtain ⟨t194, A170, H⟩ := bO H
               replace H : (if y190.length + t194.length < 140737488355328 then ((some (y190 ++ t194 : List Int)).bind fun y197 => (if a1 = true then ((spec_l3List.f k1 ((rd_T34 ((rd_T27 l0 0).f1) x6_1).f2)).bind fun t202 => (if y197.length + t202.length < 140737488355328 then (spec_l3Pack_in.l0 k1 l0 a1 (y197 ++ t202) (wrap64 (x6_1 + 1))) else (none))) else (if y197.length < 140737488355328 then (spec_l3Pack_in.l0 k1 l0 a1 (y197 ++ [0]) (wrap64 (x6_1 + 1))) else (none)))) else (none)) = some r := H
               have A17 := Aside0.mk A170; clear A170
               by_cases c18 : y190.length + t194.length < 140737488355328
               · rw [if_pos c18] at H
                 have LMc18 := Aside0.mk c18; clear c18
                 obtain ⟨y197, hy197⟩ : ∃ y_ : List Int, y_ = (y190 ++ t194) := ⟨_, rfl⟩
                 replace H : (if a1 = true then ((spec_l3List.f k1 ((rd_T34 ((rd_T27 l0 0).f1) x6_1).f2)).bind fun t202 => (if y197.length + t202.length < 140737488355328 then (spec_l3Pack_in.l0 k1 l0 a1 (y197 ++ t202) (wrap64 (x6_1 + 1))) else (none))) else (if y197.length < 140737488355328 then (spec_l3Pack_in.l0 k1 l0 a1 (y197 ++ [0]) (wrap64 (x6_1 + 1))) else (none))) = some r := by first | (rw [hy197]; with_reducible exact H) | (have H2_ := (Option.bind_some _ _).symm.trans H; rw [hy197]; with_reducible exact H2_) | (have H2_ := (Option.bind_some _ _).symm.trans H; with_reducible exact H2_) | with_reducible exact H | (rw [hy197]; exact H) | exact H
                 have Ny197 := Aside0.mk hy197; clear hy197
                 by_cases c19 : a1 = true
                 · subst c19
                   have H1 : ((spec_l3List.f k1 ((rd_T34 ((rd_T27 l0 0).f1) x6_1).f2)).bind fun t202 => (if y197.length + t202.length < 140737488355328 then (spec_l3Pack_in.l0 k1 l0 true (y197 ++ t202) (wrap64 (x6_1 + 1))) else (none))) = some r := by rw [if_pos rfl] at H; exact H
                   clear H; have H := H1; clear H1
                   obtain ⟨t202, A200, H⟩ := bO H
                   replace H : (if y197.length + t202.length < 140737488355328 then (spec_l3Pack_in.l0 k1 l0 true (y197 ++ t202) (wrap64 (x6_1 + 1))) else (none)) = some r := H
                   have A20 := Aside0.mk A200; clear A200
                   by_cases c21 : y197.length + t202.length < 140737488355328
                   · rw [if_pos c21] at H
                     have LMc21 := Aside0.mk c21; clear c21
                     obtain ⟨y205, hy205⟩ : ∃ y_ : List Int, y_ = (y197 ++ t202) := ⟨_, rfl⟩
                     replace H : (spec_l3Pack_in.l0 k1 l0 true y205 (wrap64 (x6_1 + 1))) = some r := by first | (rw [hy205]; with_reducible exact H) | (have H2_ := (Option.bind_some _ _).symm.trans H; rw [hy205]; with_reducible exact H2_) | (have H2_ := (Option.bind_some _ _).symm.trans H; with_reducible exact H2_) | with_reducible exact H | (rw [hy205]; exact H) | exact H
                     have Ny205 := Aside0.mk hy205; clear hy205
                     have H' := Aside0.mk H
                     clear H
                     have p184 : 0 ≤ (0 : Int) := (by omega)
                     have q184 : 0 < (l0.length : Int) := pD
                     (try clear hx174_0); (try clear hx174_1); (try clear hx174_2); (try clear hHeld)
                     obtain ⟨ad184, A184_1, c184_1, A184_2, c184_2, e184, hx184_0, hx184_1, hx184_2, hl184_1, hi184_1, hl184_2, hi184_2⟩ := at_T27 HR0.out 0 p184 q184
                     obtain rfl : ad174 = ad184 := (by injection e184)
                     have qi184 : (0 < l0.length) = True := eq_true (by omega)
                     (try rw [z0] at hx184_0); (try rw [Nat.zero_mul] at hx184_0); (try rw [Addr.add_zero'] at hx184_0); (try rw [z0] at hx184_1); (try rw [Nat.zero_mul] at hx184_1); (try rw [Addr.add_zero'] at hx184_1); (try rw [z0] at hx184_2); (try rw [Nat.zero_mul] at hx184_2); (try rw [Addr.add_zero'] at hx184_2); replace hx184_0 := cb HB hx184_0; replace hx184_1 := cb HB hx184_1; replace hx184_2 := cb HB hx184_2; have HR184_1 := Aside0.mk hi184_1; have HC184_1 := Aside0.mk hl184_1; clear hi184_1 hl184_1; have HR184_2 := Aside0.mk hi184_2; have HC184_2 := Aside0.mk hl184_2; clear hi184_2 hl184_2; replace p184 := eq_true p184; replace q184 := eq_true q184
                     try go_wp2
                     have n_ := t2 (Kd.R_drew HO_5.out) (below_drew1 HB.out)
                     clear HO_5 HB; obtain ⟨HO_5, HB⟩ := n_
                     have p185 : 0 ≤ (0 : Int) := (by omega)
                     have q185 : 0 < (l0.length : Int) := pD
                     (try clear hx184_0); (try clear hx184_1); (try clear hx184_2); (try clear hHeld)
                     obtain ⟨ad185, A185_1, c185_1, A185_2, c185_2, e185, hx185_0, hx185_1, hx185_2, hl185_1, hi185_1, hl185_2, hi185_2⟩ := at_T27 HR0.out 0 p185 q185
                     have hw185_2 := hx185_2
                     (try rw [z0] at hw185_2); (try rw [Nat.zero_mul] at hw185_2); (try rw [Addr.add_zero'] at hw185_2)
                     have hw185_1 := hx185_1
                     (try rw [z0] at hw185_1); (try rw [Nat.zero_mul] at hw185_1); (try rw [Addr.add_zero'] at hw185_1)
                     have hw185_0 := hx185_0
                     (try rw [z0] at hw185_0); (try rw [Nat.zero_mul] at hw185_0); (try rw [Addr.add_zero'] at hw185_0)
                     obtain rfl : ad174 = ad185 := (by injection e185)
                     have qi185 : (0 < l0.length) = True := eq_true (by omega)
                     (try rw [z0] at hx185_0); (try rw [Nat.zero_mul] at hx185_0); (try rw [Addr.add_zero'] at hx185_0); (try rw [z0] at hx185_1); (try rw [Nat.zero_mul] at hx185_1); (try rw [Addr.add_zero'] at hx185_1); (try rw [z0] at hx185_2); (try rw [Nat.zero_mul] at hx185_2); (try rw [Addr.add_zero'] at hx185_2); replace hx185_0 := cb HB hx185_0; replace hx185_1 := cb HB hx185_1; replace hx185_2 := cb HB hx185_2; have HR185_1 := Aside0.mk hi185_1; have HC185_1 := Aside0.mk hl185_1; clear hi185_1 hl185_1; have HR185_2 := Aside0.mk hi185_2; have HC185_2 := Aside0.mk hl185_2; clear hi185_2 hl185_2; replace p185 := eq_true p185; replace q185 := eq_true q185
                     have p186 : 0 ≤ (x6_1 : Int) := pD
                     have q186 : x6_1 < (((rd_T27 l0 0).f1).length : Int) := pD
                     obtain ⟨ad186, A186_2, c186_2, e186, hx186_0, hx186_1, hx186_2, hl186_2, hi186_2⟩ := at_T34 HR185_1.out x6_1 p186 q186
                     have hw186_2 := hx186_2
                     have hw186_1 := hx186_1
                     have hw186_0 := hx186_0
                     cases e186; replace hx186_0 := cb HB hx186_0; replace hx186_1 := cb HB hx186_1; replace hx186_2 := cb HB hx186_2; have HR186_2 := Aside0.mk hi186_2; have HC186_2 := Aside0.mk hl186_2; clear hi186_2 hl186_2; replace p186 := eq_true p186; replace q186 := eq_true q186
                     have p193 : 0 ≤ (x6_1 : Int) := pD
                     have q193 : x6_1 < (((rd_T27 l0 0).f1).length : Int) := pD
                     obtain ⟨ad193, A193_2, c193_2, e193, hx193_0, hx193_1, hx193_2, hl193_2, hi193_2⟩ := at_T34 HR185_1.out x6_1 p193 q193
                     have hw193_2 := hx193_2
                     have hw193_1 := hx193_1
                     have hw193_0 := hx193_0
                     obtain rfl : ad186 = ad193 := (by injection e193)
                     replace hx193_0 := cb HB hx193_0; replace hx193_1 := cb HB hx193_1; replace hx193_2 := cb HB hx193_2; have HR193_2 := Aside0.mk hi193_2; have HC193_2 := Aside0.mk hl193_2; clear hi193_2 hl193_2; replace p193 := eq_true p193; replace q193 := eq_true q193
                     have ea_ := Option.some.inj (hx186_2.symm.trans hx193_2)
                     injection ea_ with ea_ en_ ec_
                     subst ea_; subst ec_; clear en_
                     refine start_ (n := 22) (S := fun w' => w'.cell? ad174 = some (.int .i64 ((rd_T27 l0 0).f0)) ∧ w'.cell? ⟨ad174.block, ad174.off + 1, none⟩ = some (.slice (some ad186) ((rd_T27 l0 0).f1).length c185_1) ∧ w'.cell? ⟨ad174.block, ad174.off + 2, none⟩ = some (.slice A185_2 ((rd_T27 l0 0).f2).length c185_2) ∧ w'.cell? (ad186.add ((x6_1).toNat * 3)) = some (.int .i64 ((rd_T34 ((rd_T27 l0 0).f1) x6_1).f0)) ∧ w'.cell? ⟨(ad186.add ((x6_1).toNat * 3)).block, (ad186.add ((x6_1).toNat * 3)).off + 1, none⟩ = some (.int .i64 ((rd_T34 ((rd_T27 l0 0).f1) x6_1).f1)) ∧ w'.cell? ⟨(ad186.add ((x6_1).toNat * 3)).block, (ad186.add ((x6_1).toNat * 3)).off + 2, none⟩ = some (.slice A186_2 ((rd_T34 ((rd_T27 l0 0).f1) x6_1).f2).length c186_2) ∧ w'.cell? (ad186.add ((x6_1).toNat * 3)) = some (.int .i64 ((rd_T34 ((rd_T27 l0 0).f1) x6_1).f0)) ∧ w'.cell? ⟨(ad186.add ((x6_1).toNat * 3)).block, (ad186.add ((x6_1).toNat * 3)).off + 1, none⟩ = some (.int .i64 ((rd_T34 ((rd_T27 l0 0).f1) x6_1).f1)) ∧ w'.cell? ⟨(ad186.add ((x6_1).toNat * 3)).block, (ad186.add ((x6_1).toNat * 3)).off + 2, none⟩ = some (.slice A186_2 ((rd_T34 ((rd_T27 l0 0).f1) x6_1).f2).length c186_2)) (ds := []) #[false, false, false, false, false, false, false, false, false, false, false, false, false, false, false, false, false, false, false, false, false, false] (by kernel_rfl) rfl rfl ⟨(cb HB hw185_0), (cb HB hw185_1), (cb HB hw185_2), (cb HB hw186_0), (cb HB hw186_1), (cb HB hw186_2), (cb HB hw193_0), (cb HB hw193_1), (cb HB hw193_2)⟩ (fun hHeld => ?_); refine with_tabW spec_l3Pack_in.tab5 spec_l3Pack_in.bits5 (fun HT_ HW_ => ?_)
                     generalize wr.drew = w22 at HO_5 HB HR185_1 HR185_2 HR186_2 HR193_2 hx185_0 hx185_1 hx185_2 hx186_0 hx186_1 hx186_2 hx193_0 hx193_1 hx193_2 hHeld ⊢
                     refine rP 0 (some 29) #[true, false, false, false, false, false, false, false, false, false, false, false, false, false, false, false, false, false, false, false, false, false] (any_of HT_.out (by kernel_rfl)) ?_
                     refine rP 1 (some 30) #[true, true, false, false, false, false, false, false, false, false, false, false, false, false, false, false, false, false, false, false, false, false] (any_of HT_.out (by kernel_rfl)) ?_
                     refine rP 2 (some 31) #[true, true, true, false, false, false, false, false, false, false, false, false, false, false, false, false, false, false, false, false, false, false] (any_of HT_.out (by kernel_rfl)) ?_
                     refine rP 3 (some 32) #[true, true, true, true, false, false, false, false, false, false, false, false, false, false, false, false, false, false, false, false, false, false] (any_of HT_.out (by kernel_rfl)) ?_
                     refine rP 5 (some 34) #[true, true, true, true, false, true, false, false, false, false, false, false, false, false, false, false, false, false, false, false, false, false] (any_of HT_.out (by kernel_rfl)) ?_
                     refine rP 11 (some 40) #[true, true, true, true, false, true, false, false, false, false, false, true, false, false, false, false, false, false, false, false, false, false] (any_of HT_.out (by kernel_rfl)) ?_
                     refine rP 12 (some 41) #[true, true, true, true, false, true, false, false, false, false, false, true, true, false, false, false, false, false, false, false, false, false] (any_of HT_.out (by kernel_rfl)) ?_
                     refine rP 13 (some 42) #[true, true, true, true, false, true, false, false, false, false, false, true, true, true, false, false, false, false, false, false, false, false] (any_of HT_.out (by kernel_rfl)) ?_
                     refine rP 15 (some 44) #[true, true, true, true, false, true, false, false, false, false, false, true, true, true, false, true, false, false, false, false, false, false] (any_of HT_.out (by kernel_rfl)) ?_
                     refine rT 4 (some 33) #[true, true, true, true, true, true, false, false, false, false, false, true, true, true, false, true, false, false, false, false, false, false] (take_ofW HT_.out HW_.out (by kernel_rfl)) hHeld ?_
                     refine rP 6 (some 35) #[true, true, true, true, true, true, true, false, false, false, false, true, true, true, false, true, false, false, false, false, false, false] (any_of HT_.out (by kernel_rfl)) ?_
                     refine rP 7 (some 36) #[true, true, true, true, true, true, true, true, false, false, false, true, true, true, false, true, false, false, false, false, false, false] (any_of HT_.out (by kernel_rfl)) ?_
                     refine rT 8 (some 37) #[true, true, true, true, true, true, true, true, true, false, false, true, true, true, false, true, false, false, false, false, false, false] (take_ofW HT_.out HW_.out (by kernel_rfl)) hHeld ?_
                     refine rT 14 (some 43) #[true, true, true, true, true, true, true, true, true, false, false, true, true, true, true, true, false, false, false, false, false, false] (take_ofW HT_.out HW_.out (by kernel_rfl)) hHeld ?_
                     refine rP 16 (some 45) #[true, true, true, true, true, true, true, true, true, false, false, true, true, true, true, true, true, false, false, false, false, false] (any_of HT_.out (by kernel_rfl)) ?_
                     refine rP 17 (some 46) #[true, true, true, true, true, true, true, true, true, false, false, true, true, true, true, true, true, true, false, false, false, false] (any_of HT_.out (by kernel_rfl)) ?_
                     refine rT 18 (some 47) #[true, true, true, true, true, true, true, true, true, false, false, true, true, true, true, true, true, true, true, false, false, false] (take_ofW HT_.out HW_.out (by kernel_rfl)) hHeld ?_
                     refine one_ (i := 9) (N := some 38) #[true, true, true, true, true, true, true, true, true, true, false, true, true, true, true, true, true, true, true, false, false, false] rfl rfl (one_of HT_.out (by kernel_rfl)) (by decide) (fun K hK => ?_)
                     refine goes_ Try.func125 (by kernel_rfl) rfl #[.int .i64 ((rd_T34 ((rd_T27 l0 0).f1) x6_1).f0)] (by rfl) rfl rfl pA ?_
                     with_reducible refine (spec_l3Big.calls ((rd_T34 ((rd_T27 l0 0).f1) x6_1).f0) t187 _ A15.out).mono ?_
                     rintro e w23 ⟨v188, rfl, ho0, hb⟩
                     refine ⟨_, rfl, ?_⟩
                     have n_ := t3 (Kd.R_elder' (pR HO_5) (Kd.R_base ho0) hb) (Kd.R_lower (Kd.R_new' ho0 (Kd.R_lt (pR HO_5))) (below_size pB)) (below_step pB hb)
                     clear HO_5 HB; obtain ⟨HO_5, HO189, HB⟩ := n_; (try clear hb); (try clear hb2); (try clear hk); (try clear hi); (try clear ho0)
                     obtain ⟨Ao25, co25, eo25⟩ := Kd.R_slice HO189.out
                     (first | subst eo25 | (injection eo25 with f1_ f2_ f3_; have f4_ := f1_.symm; have f5_ := f3_.symm; clear f1_ f2_ f3_; subst f4_; subst f5_))
                     refine hK.out _ _ ⟨(cb HB hw185_0), (cb HB hw185_1), (cb HB hw185_2), (cb HB hw186_0), (cb HB hw186_1), (cb HB hw186_2), (cb HB hw193_0), (cb HB hw193_1), (cb HB hw193_2)⟩ (fun hHeld => ?_)
                     clear hK K
                     refine rN ?_
                     refine one_ (i := 10) (N := some 39) #[true, true, true, true, true, true, true, true, true, true, true, true, true, true, true, true, true, true, true, false, false, false] rfl rfl (one_of HT_.out (by kernel_rfl)) (by decide) (fun K hK => ?_)
                     refine Kd.R_append_rows_step (Kd.int .u8) (w0 := w) w.heap.size (by rfl) (.tmp 29) (.tmp 38) 22 5 (.int .u8 0) 1 rfl Try.underlying22 info5 rfl (by decide) (by omega) u5 x5_1 t187 _ _ _ (fun k_ => some k_ ≠ (.slice Ao25 t187.length co25 : Value).ownBlock) (fun _ => False) rfl rfl ?aO ?aR (fun _ _ h => h) (fun _ h => h.elim) ?aF ?aB ?aS ?aL ?_
                     (case aR => exact pC (Kd.R_reads' HO189.out).2.2)
                     (case aB => exact pB)
                     (case aF => exact (fun k_ hk => Kd.fresh' (Kd.R_lt (pR HO189)) k_ hk))
                     (case aO => exact (pT (Kd.R_mono HO_5.out (fun _ hk => hk.2))))
                     (case aS => exact (below_size pB))
                     (case aL => have := LMc16.out; omega)
                     intro v191 w24 ho hb hg hat
                     rw [← Ny190.out] at ho
                     have n_ := t3 (Kd.R_after (ok := (fun _ => True)) (pR HO189) hg hat) (hb) (ho)
                     clear HO189 HB HO_5; obtain ⟨HO189, HB, HO192⟩ := n_; clear ho hb hg hat
                     refine hK.out _ _ ⟨(cb HB hw185_0), (cb HB hw185_1), (cb HB hw185_2), (cb HB hw186_0), (cb HB hw186_1), (cb HB hw186_2), (cb HB hw193_0), (cb HB hw193_1), (cb HB hw193_2)⟩ (fun hHeld => ?_)
                     clear hK K
                     refine rN ?_
                     refine one_ (i := 19) (N := some 48) #[true, true, true, true, true, true, true, true, true, true, true, true, true, true, true, true, true, true, true, true, false, false] rfl rfl (one_of HT_.out (by kernel_rfl)) (by decide) (fun K hK => ?_)
                     refine goes_ Try.func80 (by kernel_rfl) rfl #[.int .i64 ((rd_T34 ((rd_T27 l0 0).f1) x6_1).f1)] (by rfl) rfl rfl pA ?_
                     with_reducible refine (spec_l3Put.calls ((rd_T34 ((rd_T27 l0 0).f1) x6_1).f1) t194 _ A17.out).mono ?_
                     rintro e w26 ⟨v195, rfl, ho0, hb⟩
                     refine ⟨_, rfl, ?_⟩
                     have n_ := t4 (Kd.R_elder' (pR HO189) (Kd.R_base ho0) hb) (Kd.R_elder' (pR HO192) (Kd.R_base ho0) hb) (Kd.R_lower (Kd.R_new' (Kd.R_new' ho0 (Kd.R_lt (pR HO189))) (Kd.R_lt (pR HO192))) (below_size pB)) (below_step pB hb)
                     clear HO189 HO192 HB; obtain ⟨HO189, HO192, HO196, HB⟩ := n_; (try clear hb); (try clear hb2); (try clear hk); (try clear hi); (try clear ho0)
                     obtain ⟨Ao28, co28, eo28⟩ := Kd.R_slice HO196.out
                     (first | subst eo28 | (injection eo28 with f1_ f2_ f3_; have f4_ := f1_.symm; have f5_ := f3_.symm; clear f1_ f2_ f3_; subst f4_; subst f5_))
                     refine hK.out _ _ ⟨(cb HB hw185_0), (cb HB hw185_1), (cb HB hw185_2), (cb HB hw186_0), (cb HB hw186_1), (cb HB hw186_2), (cb HB hw193_0), (cb HB hw193_1), (cb HB hw193_2)⟩ (fun hHeld => ?_)
                     clear hK K
                     refine rN ?_
                     refine one_ (i := 20) (N := some 49) #[true, true, true, true, true, true, true, true, true, true, true, true, true, true, true, true, true, true, true, true, true, false] rfl rfl (one_of HT_.out (by kernel_rfl)) (by decide) (fun K hK => ?_)
                     refine Kd.R_append_rows_step (Kd.int .u8) (w0 := w) w.heap.size (by rfl) (.tmp 39) (.tmp 48) 22 5 (.int .u8 0) 1 rfl Try.underlying22 info5 rfl (by decide) (by omega) v191 y190 t194 _ _ _ (fun k_ => some k_ ≠ (.slice Ao25 t187.length co25 : Value).ownBlock ∧ some k_ ≠ (.slice Ao28 t194.length co28 : Value).ownBlock) (fun _ => False) rfl rfl ?aO ?aR (fun _ _ h => h) (fun _ h => h.elim) ?aF ?aB ?aS ?aL ?_
                     (case aR => exact pC (Kd.R_reads' HO196.out).2.2)
                     (case aB => exact pB)
                     (case aF => exact (fun k_ hk => ⟨Kd.fresh' (Kd.R_lt (pR HO189)) k_ hk, Kd.fresh' (Kd.R_lt (pR HO196)) k_ hk⟩))
                     (case aO => exact (pR HO192))
                     (case aS => exact (below_size pB))
                     (case aL => have := LMc18.out; omega)
                     intro v198 w27 ho hb hg hat
                     rw [← Ny197.out] at ho
                     have n_ := t4 (Kd.R_after (ok := (fun k_ => some k_ ≠ (.slice Ao28 t194.length co28 : Value).ownBlock)) (pT (Kd.R_mono HO189.out (fun _ hk => ⟨hk.2, hk.1.2⟩))) hg hat) (Kd.R_after (ok := (fun k_ => some k_ ≠ (.slice Ao25 t187.length co25 : Value).ownBlock)) (pT (Kd.R_mono HO196.out (fun _ hk => ⟨hk.1.2, hk.2⟩))) hg hat) (hb) (ho)
                     clear HO189 HO196 HB HO192; obtain ⟨HO189, HO196, HB, HO199⟩ := n_; clear ho hb hg hat
                     refine hK.out _ _ ⟨(cb HB hw185_0), (cb HB hw185_1), (cb HB hw185_2), (cb HB hw186_0), (cb HB hw186_1), (cb HB hw186_2), (cb HB hw193_0), (cb HB hw193_1), (cb HB hw193_2)⟩ (fun hHeld => ?_)
                     clear hK K
                     refine rN ?_
                     refine rP 21 (some 5) #[true, true, true, true, true, true, true, true, true, true, true, true, true, true, true, true, true, true, true, true, true, true] (any_of HT_.out (by kernel_rfl)) ?_
                     refine done_ (done_of HT_.out (by kernel_rfl)) ?_
                     have p200 : 0 ≤ (0 : Int) := (by omega)
                     have q200 : 0 < (l0.length : Int) := pD
                     (try clear hx185_0); (try clear hx185_1); (try clear hx185_2); (try clear hx186_0); (try clear hx186_1); (try clear hx186_2); (try clear hx193_0); (try clear hx193_1); (try clear hx193_2); (try clear hHeld)
                     obtain ⟨ad200, A200_1, c200_1, A200_2, c200_2, e200, hx200_0, hx200_1, hx200_2, hl200_1, hi200_1, hl200_2, hi200_2⟩ := at_T27 HR0.out 0 p200 q200
                     obtain rfl : ad174 = ad200 := (by injection e200)
                     have qi200 : (0 < l0.length) = True := eq_true (by omega)
                     (try rw [z0] at hx200_0); (try rw [Nat.zero_mul] at hx200_0); (try rw [Addr.add_zero'] at hx200_0); (try rw [z0] at hx200_1); (try rw [Nat.zero_mul] at hx200_1); (try rw [Addr.add_zero'] at hx200_1); (try rw [z0] at hx200_2); (try rw [Nat.zero_mul] at hx200_2); (try rw [Addr.add_zero'] at hx200_2); replace hx200_0 := cb HB hx200_0; replace hx200_1 := cb HB hx200_1; replace hx200_2 := cb HB hx200_2; have HR200_1 := Aside0.mk hi200_1; have HC200_1 := Aside0.mk hl200_1; clear hi200_1 hl200_1; have HR200_2 := Aside0.mk hi200_2; have HC200_2 := Aside0.mk hl200_2; clear hi200_2 hl200_2; replace p200 := eq_true p200; replace q200 := eq_true q200
                     have p201 : 0 ≤ (x6_1 : Int) := pD
                     have q201 : x6_1 < (((rd_T27 l0 0).f1).length : Int) := pD
                     obtain ⟨ad201, A201_2, c201_2, e201, hx201_0, hx201_1, hx201_2, hl201_2, hi201_2⟩ := at_T34 HR200_1.out x6_1 p201 q201
                     cases e201; replace hx201_0 := cb HB hx201_0; replace hx201_1 := cb HB hx201_1; replace hx201_2 := cb HB hx201_2; have HR201_2 := Aside0.mk hi201_2; have HC201_2 := Aside0.mk hl201_2; clear hi201_2 hl201_2; replace p201 := eq_true p201; replace q201 := eq_true q201
                     try go_wp2_with (first | ((with_reducible refine gate_callee (f := 126) rfl ?_); refine goesL_ (some 60) rfl rfl Try.func126 (by kernel_rfl) rfl #[.slice A201_2 ((rd_T34 ((rd_T27 l0 0).f1) x6_1).f2).length c201_2] rfl pA ?_; (with_reducible refine (spec_l3List.calls k1 _ _ ((rd_T34 ((rd_T27 l0 0).f1) x6_1).f2) t202 _ ?side1 ?side2 A20.out).mono ?_); (case side1 => exact pC (Kd.C_below HR201_2.out HB.out)); (case side2 => exact HC201_2.out); rintro e w29 ⟨v203, rfl, ho0, hb⟩; refine ⟨_, rfl, ?_⟩; have n_ := t5 (Kd.R_elder' (pR HO189) (Kd.R_base ho0) hb) (Kd.R_elder' (pR HO196) (Kd.R_base ho0) hb) (Kd.R_elder' (pR HO199) (Kd.R_base ho0) hb) (Kd.R_lower (Kd.R_new' (Kd.R_new' (Kd.R_new' ho0 (Kd.R_lt (pR HO189))) (Kd.R_lt (pR HO196))) (Kd.R_lt (pR HO199))) (below_size pB)) (below_step pB hb); clear HO189 HO196 HO199 HB; obtain ⟨HO189, HO196, HO199, HO204, HB⟩ := n_; (try clear hb); (try clear ho0); obtain ⟨Ao31, co31, eo31⟩ := Kd.R_slice HO204.out; subst eo31) | ((with_reducible refine gate_builtin (b := .append) (xs := #[.tmp 51, .tmp 60]) rfl ?_); at_builtin; refine Kd.R_append_rows (Kd.int .u8) (w0 := w) w.heap.size rfl (.tmp 51) (.tmp 60) 22 5 (.int .u8 0) 1 rfl Try.underlying22 info5 rfl (by decide) (by omega) v198 y197 t202 _ _ _ (fun k_ => some k_ ≠ (.slice Ao25 t187.length co25 : Value).ownBlock ∧ some k_ ≠ (.slice Ao28 t194.length co28 : Value).ownBlock ∧ some k_ ≠ (.slice Ao31 t202.length co31 : Value).ownBlock) (fun _ => False) rfl rfl ?aO ?aR (fun _ _ h => h) (fun _ h => h.elim) ?aF ?aB ?aS ?aL ?_; (case aR => exact pC (Kd.R_reads' HO204.out).2.2); (case aB => exact pB); (case aF => exact (fun k_ hk => ⟨Kd.fresh' (Kd.R_lt (pR HO189)) k_ hk, Kd.fresh' (Kd.R_lt (pR HO196)) k_ hk, Kd.fresh' (Kd.R_lt (pR HO204)) k_ hk⟩)); (case aO => exact (pT (Kd.R_mono HO199.out (fun _ hk => ⟨hk.1.1, ⟨hk.1.2, hk.2⟩⟩)))); (case aS => exact (below_size pB)); (case aL => have := LMc21.out; omega); intro v206 w30 ho hb hg hat; rw [← Ny205.out] at ho; have n_ := t5 (Kd.R_after (ok := (fun k_ => some k_ ≠ (.slice Ao28 t194.length co28 : Value).ownBlock ∧ some k_ ≠ (.slice Ao31 t202.length co31 : Value).ownBlock)) (pT (Kd.R_mono HO189.out (fun _ hk => ⟨⟨hk.1.1, hk.2⟩, hk.1.2⟩))) hg hat) (Kd.R_after (ok := (fun k_ => some k_ ≠ (.slice Ao25 t187.length co25 : Value).ownBlock ∧ some k_ ≠ (.slice Ao31 t202.length co31 : Value).ownBlock)) (pT (Kd.R_mono HO196.out (fun _ hk => ⟨⟨hk.1.1, hk.2⟩, hk.1.2⟩))) hg hat) (Kd.R_after (ok := (fun k_ => some k_ ≠ (.slice Ao25 t187.length co25 : Value).ownBlock ∧ some k_ ≠ (.slice Ao28 t194.length co28 : Value).ownBlock)) (pT (Kd.R_mono HO204.out (fun _ hk => ⟨⟨hk.1.1.2, hk.1.2⟩, hk.2⟩))) hg hat) (hb) (ho); clear HO189 HO196 HO204 HB HO199; obtain ⟨HO189, HO196, HO204, HB, HO207⟩ := n_; clear ho hb hg hat))
                     go_roundg k1
                     case measure => have := HK1.out; omega
                     case rel => exact ⟨(y205), (wrap64 (x6_1 + 1)), pF, H', ⟨by have := HK1.out; omega⟩, ⟨(pT (Kd.R_mono HO207.out (fun _ hk => trivial)))⟩, ⟨pB⟩⟩
                   · rw [if_neg c21] at H
                     exact absurd H (by simp)
                 · replace c19 := Bool.eq_false_iff.mpr c19
                   subst c19
                   have H1 : (if y197.length < 140737488355328 then (spec_l3Pack_in.l0 k1 l0 false (y197 ++ [0]) (wrap64 (x6_1 + 1))) else (none)) = some r := by rw [if_neg (show ¬ (false = true) by decide)] at H; exact H
                   clear H; have H := H1; clear H1
                   by_cases c32 : y197.length < 140737488355328
                   · rw [if_pos c32] at H
                     have LMc32 := Aside0.mk c32; clear c32
                     obtain ⟨y208, hy208⟩ : ∃ y_ : List Int, y_ = (y197 ++ [0]) := ⟨_, rfl⟩
                     replace H : (spec_l3Pack_in.l0 k1 l0 false y208 (wrap64 (x6_1 + 1))) = some r := by first | (rw [hy208]; with_reducible exact H) | (have H2_ := (Option.bind_some _ _).symm.trans H; rw [hy208]; with_reducible exact H2_) | (have H2_ := (Option.bind_some _ _).symm.trans H; with_reducible exact H2_) | with_reducible exact H | (rw [hy208]; exact H) | exact H
                     have Ny208 := Aside0.mk hy208; clear hy208
                     have H' := Aside0.mk H
                     clear H
                     have p184 : 0 ≤ (0 : Int) := (by omega)
                     have q184 : 0 < (l0.length : Int) := pD
                     obtain ⟨ad184, A184_1, c184_1, A184_2, c184_2, e184, hx184_0, hx184_1, hx184_2, hl184_1, hi184_1, hl184_2, hi184_2⟩ := at_T27 HR0.out 0 p184 q184
                     obtain rfl : ad174 = ad184 := (by injection e184)
                     have qi184 : (0 < l0.length) = True := eq_true (by omega)
                     (try rw [z0] at hx184_0); (try rw [Nat.zero_mul] at hx184_0); (try rw [Addr.add_zero'] at hx184_0); (try rw [z0] at hx184_1); (try rw [Nat.zero_mul] at hx184_1); (try rw [Addr.add_zero'] at hx184_1); (try rw [z0] at hx184_2); (try rw [Nat.zero_mul] at hx184_2); (try rw [Addr.add_zero'] at hx184_2); replace hx184_0 := cb HB hx184_0; replace hx184_1 := cb HB hx184_1; replace hx184_2 := cb HB hx184_2; have HR184_1 := Aside0.mk hi184_1; have HC184_1 := Aside0.mk hl184_1; clear hi184_1 hl184_1; have HR184_2 := Aside0.mk hi184_2; have HC184_2 := Aside0.mk hl184_2; clear hi184_2 hl184_2; replace p184 := eq_true p184; replace q184 := eq_true q184
                     try go_wp2
                     have n_ := t2 (Kd.R_drew HO_5.out) (below_drew1 HB.out)
                     clear HO_5 HB; obtain ⟨HO_5, HB⟩ := n_
                     have p185 : 0 ≤ (0 : Int) := (by omega)
                     have q185 : 0 < (l0.length : Int) := pD
                     (try clear hx184_0); (try clear hx184_1); (try clear hx184_2); (try clear hHeld)
                     obtain ⟨ad185, A185_1, c185_1, A185_2, c185_2, e185, hx185_0, hx185_1, hx185_2, hl185_1, hi185_1, hl185_2, hi185_2⟩ := at_T27 HR0.out 0 p185 q185
                     have hw185_2 := hx185_2
                     (try rw [z0] at hw185_2); (try rw [Nat.zero_mul] at hw185_2); (try rw [Addr.add_zero'] at hw185_2)
                     have hw185_1 := hx185_1
                     (try rw [z0] at hw185_1); (try rw [Nat.zero_mul] at hw185_1); (try rw [Addr.add_zero'] at hw185_1)
                     have hw185_0 := hx185_0
                     (try rw [z0] at hw185_0); (try rw [Nat.zero_mul] at hw185_0); (try rw [Addr.add_zero'] at hw185_0)
                     obtain rfl : ad174 = ad185 := (by injection e185)
                     have qi185 : (0 < l0.length) = True := eq_true (by omega)
                     (try rw [z0] at hx185_0); (try rw [Nat.zero_mul] at hx185_0); (try rw [Addr.add_zero'] at hx185_0); (try rw [z0] at hx185_1); (try rw [Nat.zero_mul] at hx185_1); (try rw [Addr.add_zero'] at hx185_1); (try rw [z0] at hx185_2); (try rw [Nat.zero_mul] at hx185_2); (try rw [Addr.add_zero'] at hx185_2); replace hx185_0 := cb HB hx185_0; replace hx185_1 := cb HB hx185_1; replace hx185_2 := cb HB hx185_2; have HR185_1 := Aside0.mk hi185_1; have HC185_1 := Aside0.mk hl185_1; clear hi185_1 hl185_1; have HR185_2 := Aside0.mk hi185_2; have HC185_2 := Aside0.mk hl185_2; clear hi185_2 hl185_2; replace p185 := eq_true p185; replace q185 := eq_true q185
                     have p186 : 0 ≤ (x6_1 : Int) := pD
                     have q186 : x6_1 < (((rd_T27 l0 0).f1).length : Int) := pD
                     obtain ⟨ad186, A186_2, c186_2, e186, hx186_0, hx186_1, hx186_2, hl186_2, hi186_2⟩ := at_T34 HR185_1.out x6_1 p186 q186
                     have hw186_2 := hx186_2
                     have hw186_1 := hx186_1
                     have hw186_0 := hx186_0
                     cases e186; replace hx186_0 := cb HB hx186_0; replace hx186_1 := cb HB hx186_1; replace hx186_2 := cb HB hx186_2; have HR186_2 := Aside0.mk hi186_2; have HC186_2 := Aside0.mk hl186_2; clear hi186_2 hl186_2; replace p186 := eq_true p186; replace q186 := eq_true q186
                     have p193 : 0 ≤ (x6_1 : Int) := pD
                     have q193 : x6_1 < (((rd_T27 l0 0).f1).length : Int) := pD
                     obtain ⟨ad193, A193_2, c193_2, e193, hx193_0, hx193_1, hx193_2, hl193_2, hi193_2⟩ := at_T34 HR185_1.out x6_1 p193 q193
                     have hw193_2 := hx193_2
                     have hw193_1 := hx193_1
                     have hw193_0 := hx193_0
                     obtain rfl : ad186 = ad193 := (by injection e193)
                     replace hx193_0 := cb HB hx193_0; replace hx193_1 := cb HB hx193_1; replace hx193_2 := cb HB hx193_2; have HR193_2 := Aside0.mk hi193_2; have HC193_2 := Aside0.mk hl193_2; clear hi193_2 hl193_2; replace p193 := eq_true p193; replace q193 := eq_true q193
                     have ea_ := Option.some.inj (hx186_2.symm.trans hx193_2)
                     injection ea_ with ea_ en_ ec_
                     subst ea_; subst ec_; clear en_
                     refine start_ (n := 22) (S := fun w' => w'.cell? ad174 = some (.int .i64 ((rd_T27 l0 0).f0)) ∧ w'.cell? ⟨ad174.block, ad174.off + 1, none⟩ = some (.slice (some ad186) ((rd_T27 l0 0).f1).length c185_1) ∧ w'.cell? ⟨ad174.block, ad174.off + 2, none⟩ = some (.slice A185_2 ((rd_T27 l0 0).f2).length c185_2) ∧ w'.cell? (ad186.add ((x6_1).toNat * 3)) = some (.int .i64 ((rd_T34 ((rd_T27 l0 0).f1) x6_1).f0)) ∧ w'.cell? ⟨(ad186.add ((x6_1).toNat * 3)).block, (ad186.add ((x6_1).toNat * 3)).off + 1, none⟩ = some (.int .i64 ((rd_T34 ((rd_T27 l0 0).f1) x6_1).f1)) ∧ w'.cell? ⟨(ad186.add ((x6_1).toNat * 3)).block, (ad186.add ((x6_1).toNat * 3)).off + 2, none⟩ = some (.slice A186_2 ((rd_T34 ((rd_T27 l0 0).f1) x6_1).f2).length c186_2) ∧ w'.cell? (ad186.add ((x6_1).toNat * 3)) = some (.int .i64 ((rd_T34 ((rd_T27 l0 0).f1) x6_1).f0)) ∧ w'.cell? ⟨(ad186.add ((x6_1).toNat * 3)).block, (ad186.add ((x6_1).toNat * 3)).off + 1, none⟩ = some (.int .i64 ((rd_T34 ((rd_T27 l0 0).f1) x6_1).f1)) ∧ w'.cell? ⟨(ad186.add ((x6_1).toNat * 3)).block, (ad186.add ((x6_1).toNat * 3)).off + 2, none⟩ = some (.slice A186_2 ((rd_T34 ((rd_T27 l0 0).f1) x6_1).f2).length c186_2)) (ds := []) #[false, false, false, false, false, false, false, false, false, false, false, false, false, false, false, false, false, false, false, false, false, false] (by kernel_rfl) rfl rfl ⟨(cb HB hw185_0), (cb HB hw185_1), (cb HB hw185_2), (cb HB hw186_0), (cb HB hw186_1), (cb HB hw186_2), (cb HB hw193_0), (cb HB hw193_1), (cb HB hw193_2)⟩ (fun hHeld => ?_); refine with_tabW spec_l3Pack_in.tab5 spec_l3Pack_in.bits5 (fun HT_ HW_ => ?_)
                     generalize wr.drew = w33 at HO_5 HB HR185_1 HR185_2 HR186_2 HR193_2 hx185_0 hx185_1 hx185_2 hx186_0 hx186_1 hx186_2 hx193_0 hx193_1 hx193_2 hHeld ⊢
                     refine rP 0 (some 29) #[true, false, false, false, false, false, false, false, false, false, false, false, false, false, false, false, false, false, false, false, false, false] (any_of HT_.out (by kernel_rfl)) ?_
                     refine rP 1 (some 30) #[true, true, false, false, false, false, false, false, false, false, false, false, false, false, false, false, false, false, false, false, false, false] (any_of HT_.out (by kernel_rfl)) ?_
                     refine rP 2 (some 31) #[true, true, true, false, false, false, false, false, false, false, false, false, false, false, false, false, false, false, false, false, false, false] (any_of HT_.out (by kernel_rfl)) ?_
                     refine rP 3 (some 32) #[true, true, true, true, false, false, false, false, false, false, false, false, false, false, false, false, false, false, false, false, false, false] (any_of HT_.out (by kernel_rfl)) ?_
                     refine rP 5 (some 34) #[true, true, true, true, false, true, false, false, false, false, false, false, false, false, false, false, false, false, false, false, false, false] (any_of HT_.out (by kernel_rfl)) ?_
                     refine rP 11 (some 40) #[true, true, true, true, false, true, false, false, false, false, false, true, false, false, false, false, false, false, false, false, false, false] (any_of HT_.out (by kernel_rfl)) ?_
                     refine rP 12 (some 41) #[true, true, true, true, false, true, false, false, false, false, false, true, true, false, false, false, false, false, false, false, false, false] (any_of HT_.out (by kernel_rfl)) ?_
                     refine rP 13 (some 42) #[true, true, true, true, false, true, false, false, false, false, false, true, true, true, false, false, false, false, false, false, false, false] (any_of HT_.out (by kernel_rfl)) ?_
                     refine rP 15 (some 44) #[true, true, true, true, false, true, false, false, false, false, false, true, true, true, false, true, false, false, false, false, false, false] (any_of HT_.out (by kernel_rfl)) ?_
                     refine rT 4 (some 33) #[true, true, true, true, true, true, false, false, false, false, false, true, true, true, false, true, false, false, false, false, false, false] (take_ofW HT_.out HW_.out (by kernel_rfl)) hHeld ?_
                     refine rP 6 (some 35) #[true, true, true, true, true, true, true, false, false, false, false, true, true, true, false, true, false, false, false, false, false, false] (any_of HT_.out (by kernel_rfl)) ?_
                     refine rP 7 (some 36) #[true, true, true, true, true, true, true, true, false, false, false, true, true, true, false, true, false, false, false, false, false, false] (any_of HT_.out (by kernel_rfl)) ?_
                     refine rT 8 (some 37) #[true, true, true, true, true, true, true, true, true, false, false, true, true, true, false, true, false, false, false, false, false, false] (take_ofW HT_.out HW_.out (by kernel_rfl)) hHeld ?_
                     refine rT 14 (some 43) #[true, true, true, true, true, true, true, true, true, false, false, true, true, true, true, true, false, false, false, false, false, false] (take_ofW HT_.out HW_.out (by kernel_rfl)) hHeld ?_
                     refine rP 16 (some 45) #[true, true, true, true, true, true, true, true, true, false, false, true, true, true, true, true, true, false, false, false, false, false] (any_of HT_.out (by kernel_rfl)) ?_
                     refine rP 17 (some 46) #[true, true, true, true, true, true, true, true, true, false, false, true, true, true, true, true, true, true, false, false, false, false] (any_of HT_.out (by kernel_rfl)) ?_
                     refine rT 18 (some 47) #[true, true, true, true, true, true, true, true, true, false, false, true, true, true, true, true, true, true, true, false, false, false] (take_ofW HT_.out HW_.out (by kernel_rfl)) hHeld ?_
                     refine one_ (i := 9) (N := some 38) #[true, true, true, true, true, true, true, true, true, true, false, true, true, true, true, true, true, true, true, false, false, false] rfl rfl (one_of HT_.out (by kernel_rfl)) (by decide) (fun K hK => ?_)
                     refine goes_ Try.func125 (by kernel_rfl) rfl #[.int .i64 ((rd_T34 ((rd_T27 l0 0).f1) x6_1).f0)] (by rfl) rfl rfl pA ?_
                     with_reducible refine (spec_l3Big.calls ((rd_T34 ((rd_T27 l0 0).f1) x6_1).f0) t187 _ A15.out).mono ?_
                     rintro e w34 ⟨v188, rfl, ho0, hb⟩
                     refine ⟨_, rfl, ?_⟩
                     have n_ := t3 (Kd.R_elder' (pR HO_5) (Kd.R_base ho0) hb) (Kd.R_lower (Kd.R_new' ho0 (Kd.R_lt (pR HO_5))) (below_size pB)) (below_step pB hb)
                     clear HO_5 HB; obtain ⟨HO_5, HO189, HB⟩ := n_; (try clear hb); (try clear hb2); (try clear hk); (try clear hi); (try clear ho0)
                     obtain ⟨Ao36, co36, eo36⟩ := Kd.R_slice HO189.out
                     (first | subst eo36 | (injection eo36 with f1_ f2_ f3_; have f4_ := f1_.symm; have f5_ := f3_.symm; clear f1_ f2_ f3_; subst f4_; subst f5_))
                     refine hK.out _ _ ⟨(cb HB hw185_0), (cb HB hw185_1), (cb HB hw185_2), (cb HB hw186_0), (cb HB hw186_1), (cb HB hw186_2), (cb HB hw193_0), (cb HB hw193_1), (cb HB hw193_2)⟩ (fun hHeld => ?_)
                     clear hK K
                     refine rN ?_
                     refine one_ (i := 10) (N := some 39) #[true, true, true, true, true, true, true, true, true, true, true, true, true, true, true, true, true, true, true, false, false, false] rfl rfl (one_of HT_.out (by kernel_rfl)) (by decide) (fun K hK => ?_)
                     refine Kd.R_append_rows_step (Kd.int .u8) (w0 := w) w.heap.size (by rfl) (.tmp 29) (.tmp 38) 22 5 (.int .u8 0) 1 rfl Try.underlying22 info5 rfl (by decide) (by omega) u5 x5_1 t187 _ _ _ (fun k_ => some k_ ≠ (.slice Ao36 t187.length co36 : Value).ownBlock) (fun _ => False) rfl rfl ?aO ?aR (fun _ _ h => h) (fun _ h => h.elim) ?aF ?aB ?aS ?aL ?_
                     (case aR => exact pC (Kd.R_reads' HO189.out).2.2)
                     (case aB => exact pB)
                     (case aF => exact (fun k_ hk => Kd.fresh' (Kd.R_lt (pR HO189)) k_ hk))
                     (case aO => exact (pT (Kd.R_mono HO_5.out (fun _ hk => hk.2))))
                     (case aS => exact (below_size pB))
                     (case aL => have := LMc16.out; omega)
                     intro v191 w35 ho hb hg hat
                     rw [← Ny190.out] at ho
                     have n_ := t3 (Kd.R_after (ok := (fun _ => True)) (pR HO189) hg hat) (hb) (ho)
                     clear HO189 HB HO_5; obtain ⟨HO189, HB, HO192⟩ := n_; clear ho hb hg hat
                     refine hK.out _ _ ⟨(cb HB hw185_0), (cb HB hw185_1), (cb HB hw185_2), (cb HB hw186_0), (cb HB hw186_1), (cb HB hw186_2), (cb HB hw193_0), (cb HB hw193_1), (cb HB hw193_2)⟩ (fun hHeld => ?_)
                     clear hK K
                     refine rN ?_
                     refine one_ (i := 19) (N := some 48) #[true, true, true, true, true, true, true, true, true, true, true, true, true, true, true, true, true, true, true, true, false, false] rfl rfl (one_of HT_.out (by kernel_rfl)) (by decide) (fun K hK => ?_)
                     refine goes_ Try.func80 (by kernel_rfl) rfl #[.int .i64 ((rd_T34 ((rd_T27 l0 0).f1) x6_1).f1)] (by rfl) rfl rfl pA ?_
                     with_reducible refine (spec_l3Put.calls ((rd_T34 ((rd_T27 l0 0).f1) x6_1).f1) t194 _ A17.out).mono ?_
                     rintro e w37 ⟨v195, rfl, ho0, hb⟩
                     refine ⟨_, rfl, ?_⟩
                     have n_ := t4 (Kd.R_elder' (pR HO189) (Kd.R_base ho0) hb) (Kd.R_elder' (pR HO192) (Kd.R_base ho0) hb) (Kd.R_lower (Kd.R_new' (Kd.R_new' ho0 (Kd.R_lt (pR HO189))) (Kd.R_lt (pR HO192))) (below_size pB)) (below_step pB hb)
                     clear HO189 HO192 HB; obtain ⟨HO189, HO192, HO196, HB⟩ := n_; (try clear hb); (try clear hb2); (try clear hk); (try clear hi); (try clear ho0)
                     obtain ⟨Ao39, co39, eo39⟩ := Kd.R_slice HO196.out
                     (first | subst eo39 | (injection eo39 with f1_ f2_ f3_; have f4_ := f1_.symm; have f5_ := f3_.symm; clear f1_ f2_ f3_; subst f4_; subst f5_))
                     refine hK.out _ _ ⟨(cb HB hw185_0), (cb HB hw185_1), (cb HB hw185_2), (cb HB hw186_0), (cb HB hw186_1), (cb HB hw186_2), (cb HB hw193_0), (cb HB hw193_1), (cb HB hw193_2)⟩ (fun hHeld => ?_)
                     clear hK K
                     refine rN ?_
                     refine one_ (i := 20) (N := some 49) #[true, true, true, true, true, true, true, true, true, true, true, true, true, true, true, true, true, true, true, true, true, false] rfl rfl (one_of HT_.out (by kernel_rfl)) (by decide) (fun K hK => ?_)
                     refine Kd.R_append_rows_step (Kd.int .u8) (w0 := w) w.heap.size (by rfl) (.tmp 39) (.tmp 48) 22 5 (.int .u8 0) 1 rfl Try.underlying22 info5 rfl (by decide) (by omega) v191 y190 t194 _ _ _ (fun k_ => some k_ ≠ (.slice Ao36 t187.length co36 : Value).ownBlock ∧ some k_ ≠ (.slice Ao39 t194.length co39 : Value).ownBlock) (fun _ => False) rfl rfl ?aO ?aR (fun _ _ h => h) (fun _ h => h.elim) ?aF ?aB ?aS ?aL ?_
                     (case aR => exact pC (Kd.R_reads' HO196.out).2.2)
                     (case aB => exact pB)
                     (case aF => exact (fun k_ hk => ⟨Kd.fresh' (Kd.R_lt (pR HO189)) k_ hk, Kd.fresh' (Kd.R_lt (pR HO196)) k_ hk⟩))
                     (case aO => exact (pR HO192))
                     (case aS => exact (below_size pB))
                     (case aL => have := LMc18.out; omega)
                     intro v198 w38 ho hb hg hat
                     rw [← Ny197.out] at ho
                     have n_ := t4 (Kd.R_after (ok := (fun k_ => some k_ ≠ (.slice Ao39 t194.length co39 : Value).ownBlock)) (pT (Kd.R_mono HO189.out (fun _ hk => ⟨hk.2, hk.1.2⟩))) hg hat) (Kd.R_after (ok := (fun k_ => some k_ ≠ (.slice Ao36 t187.length co36 : Value).ownBlock)) (pT (Kd.R_mono HO196.out (fun _ hk => ⟨hk.1.2, hk.2⟩))) hg hat) (hb) (ho)
                     clear HO189 HO196 HB HO192; obtain ⟨HO189, HO196, HB, HO199⟩ := n_; clear ho hb hg hat
                     refine hK.out _ _ ⟨(cb HB hw185_0), (cb HB hw185_1), (cb HB hw185_2), (cb HB hw186_0), (cb HB hw186_1), (cb HB hw186_2), (cb HB hw193_0), (cb HB hw193_1), (cb HB hw193_2)⟩ (fun hHeld => ?_)
                     clear hK K
                     refine rN ?_
                     refine rP 21 (some 5) #[true, true, true, true, true, true, true, true, true, true, true, true, true, true, true, true, true, true, true, true, true, true] (any_of HT_.out (by kernel_rfl)) ?_
                     refine done_ (done_of HT_.out (by kernel_rfl)) ?_
                     try go_wp2_with (first | ((with_reducible refine gate_builtin (b := .append) (xs := #[.tmp 62, .tmp 63]) rfl ?_); at_builtin; refine Kd.R_append (Kd.int .u8) (w0 := w) w.heap.size rfl (.tmp 62) (.tmp 63) 22 5 (.int .u8 0) 1 rfl Try.underlying22 info5 rfl (by decide) (by omega) v198 y197 0 [.int .u8 0] (fun k_ => some k_ ≠ (.slice Ao36 t187.length co36 : Value).ownBlock ∧ some k_ ≠ (.slice Ao39 t194.length co39 : Value).ownBlock) (fun _ => False) rfl rfl ?aP (fun _ hk => hk.elim) ?aF ?aO ?aB ?aS ?aL ?_; (case aP => exact rfl); (case aB => exact pB); (case aF => exact (fun k_ hk => ⟨Kd.fresh' (Kd.R_lt (pR HO189)) k_ hk, Kd.fresh' (Kd.R_lt (pR HO196)) k_ hk⟩)); (case aO => exact (pR HO199)); (case aS => exact (below_size pB)); (case aL => have := LMc32.out; omega); intro v209 w40 ho hb hg hat; rw [← Ny208.out] at ho; have n_ := t4 (Kd.R_after (ok := (fun k_ => some k_ ≠ (.slice Ao39 t194.length co39 : Value).ownBlock)) (pR HO189) hg hat) (Kd.R_after (ok := (fun k_ => some k_ ≠ (.slice Ao36 t187.length co36 : Value).ownBlock)) (pR HO196) hg hat) (hb) (ho); clear HO189 HO196 HB HO199; obtain ⟨HO189, HO196, HB, HO210⟩ := n_; clear ho hb hg hat))
                     go_roundg k1
                     case measure => have := HK1.out; omega
                     case rel => exact ⟨(y208), (wrap64 (x6_1 + 1)), pF, H', ⟨by have := HK1.out; omega⟩, ⟨(pT (Kd.R_mono HO210.out (fun _ hk => trivial)))⟩, ⟨pB⟩⟩
                   · rw [if_neg c32] at H
                     exact absurd H (by simp)
               · rw [if_neg c18] at H
                 exact absurd H (by simp)
             · rw [if_neg c16] at H
               exact absurd H (by simp)
           · rw [if_neg c14] at H
             exact absurd H (by simp)
         · rw [if_neg c13] at H
           have c13b0 : decide (x6_1 < (((rd_T27 l0 0).f1).length : Int)) = false := decide_eq_false c13
           clear c13
           obtain ⟨t212, A410, H⟩ := bO H
           replace H : (if x5_1.length + t212.length < 140737488355328 then (spec_l3Pack_in.l1 k1 l0 (x5_1 ++ t212) 0) else (none)) = some r := H
           have A41 := Aside0.mk A410; clear A410
           by_cases c42 : x5_1.length + t212.length < 140737488355328
           · rw [if_pos c42] at H
             have LMc42 := Aside0.mk c42; clear c42
             obtain ⟨y215, hy215⟩ : ∃ y_ : List Int, y_ = (x5_1 ++ t212) := ⟨_, rfl⟩
             replace H : (spec_l3Pack_in.l1 k1 l0 y215 0) = some r := by first | (rw [hy215]; with_reducible exact H) | (have H2_ := (Option.bind_some _ _).symm.trans H; rw [hy215]; with_reducible exact H2_) | (have H2_ := (Option.bind_some _ _).symm.trans H; with_reducible exact H2_) | with_reducible exact H | (rw [hy215]; exact H) | exact H
             have Ny215 := Aside0.mk hy215; clear hy215
             have H' := Aside0.mk H
             clear H
             have p184 : 0 ≤ (0 : Int) := (by omega)
             have q184 : 0 < (l0.length : Int) := pD
             obtain ⟨ad184, A184_1, c184_1, A184_2, c184_2, e184, hx184_0, hx184_1, hx184_2, hl184_1, hi184_1, hl184_2, hi184_2⟩ := at_T27 HR0.out 0 p184 q184
             obtain rfl : ad174 = ad184 := (by injection e184)
             have qi184 : (0 < l0.length) = True := eq_true (by omega)
             (try rw [z0] at hx184_0); (try rw [Nat.zero_mul] at hx184_0); (try rw [Addr.add_zero'] at hx184_0); (try rw [z0] at hx184_1); (try rw [Nat.zero_mul] at hx184_1); (try rw [Addr.add_zero'] at hx184_1); (try rw [z0] at hx184_2); (try rw [Nat.zero_mul] at hx184_2); (try rw [Addr.add_zero'] at hx184_2); replace hx184_0 := cb HB hx184_0; replace hx184_1 := cb HB hx184_1; replace hx184_2 := cb HB hx184_2; have HR184_1 := Aside0.mk hi184_1; have HC184_1 := Aside0.mk hl184_1; clear hi184_1 hl184_1; have HR184_2 := Aside0.mk hi184_2; have HC184_2 := Aside0.mk hl184_2; clear hi184_2 hl184_2; replace p184 := eq_true p184; replace q184 := eq_true q184
             have p211 : 0 ≤ (0 : Int) := (by omega)
             have q211 : 0 < (l0.length : Int) := pD
             obtain ⟨ad211, A211_1, c211_1, A211_2, c211_2, e211, hx211_0, hx211_1, hx211_2, hl211_1, hi211_1, hl211_2, hi211_2⟩ := at_T27 HR0.out 0 p211 q211
             obtain rfl : ad174 = ad211 := (by injection e211)
             have qi211 : (0 < l0.length) = True := eq_true (by omega)
             (try rw [z0] at hx211_0); (try rw [Nat.zero_mul] at hx211_0); (try rw [Addr.add_zero'] at hx211_0); (try rw [z0] at hx211_1); (try rw [Nat.zero_mul] at hx211_1); (try rw [Addr.add_zero'] at hx211_1); (try rw [z0] at hx211_2); (try rw [Nat.zero_mul] at hx211_2); (try rw [Addr.add_zero'] at hx211_2); replace hx211_0 := cb HB hx211_0; replace hx211_1 := cb HB hx211_1; replace hx211_2 := cb HB hx211_2; have HR211_1 := Aside0.mk hi211_1; have HC211_1 := Aside0.mk hl211_1; clear hi211_1 hl211_1; have HR211_2 := Aside0.mk hi211_2; have HC211_2 := Aside0.mk hl211_2; clear hi211_2 hl211_2; replace p211 := eq_true p211; replace q211 := eq_true q211
             have ea_ := Option.some.inj (hx184_1.symm.trans hx211_1)
             injection ea_ with ea_ en_ ec_
             subst ea_; subst ec_; clear en_
             have ea_ := Option.some.inj (hx184_2.symm.trans hx211_2)
             injection ea_ with ea_ en_ ec_
             subst ea_; subst ec_; clear en_
             go_wp2_with (first | ((with_reducible refine gate_callee (f := 80) rfl ?_); refine goesL_ (some 71) rfl rfl Try.func80 (by kernel_rfl) rfl #[.int .i64 (((rd_T27 l0 0).f2).length : Int)] rfl pA ?_; (with_reducible refine (spec_l3Put.calls (((rd_T27 l0 0).f2).length : Int) t212 _ A41.out).mono ?_); rintro e w43 ⟨v213, rfl, ho0, hb⟩; refine ⟨_, rfl, ?_⟩; have n_ := t3 (Kd.R_elder' (pR HO_5) (Kd.R_base ho0) hb) (Kd.R_lower (Kd.R_new' ho0 (Kd.R_lt (pR HO_5))) (below_size pB)) (below_step pB hb); clear HO_5 HB; obtain ⟨HO_5, HO214, HB⟩ := n_; (try clear hb); (try clear ho0); obtain ⟨Ao45, co45, eo45⟩ := Kd.R_slice HO214.out; subst eo45) | ((with_reducible refine gate_builtin (b := .append) (xs := #[.tmp 65, .tmp 71]) rfl ?_); at_builtin; refine Kd.R_append_rows (Kd.int .u8) (w0 := w) w.heap.size rfl (.tmp 65) (.tmp 71) 22 5 (.int .u8 0) 1 rfl Try.underlying22 info5 rfl (by decide) (by omega) u5 x5_1 t212 _ _ _ (fun k_ => some k_ ≠ (.slice Ao45 t212.length co45 : Value).ownBlock) (fun _ => False) rfl rfl ?aO ?aR (fun _ _ h => h) (fun _ h => h.elim) ?aF ?aB ?aS ?aL ?_; (case aR => exact pC (Kd.R_reads' HO214.out).2.2); (case aB => exact pB); (case aF => exact (fun k_ hk => Kd.fresh' (Kd.R_lt (pR HO214)) k_ hk)); (case aO => exact (pT (Kd.R_mono HO_5.out (fun _ hk => hk.2)))); (case aS => exact (below_size pB)); (case aL => have := LMc42.out; omega); intro v216 w44 ho hb hg hat; rw [← Ny215.out] at ho; have n_ := t3 (Kd.R_after (ok := (fun _ => True)) (pR HO214) hg hat) (hb) (ho); clear HO214 HB HO_5; obtain ⟨HO214, HB, HO217⟩ := n_; clear ho hb hg hat))
             go_loopg [5, 7] k1 (fun kq v5 v7 w' => ∃ (x5_2 : List Int) (x7_2 : Int), v7 = .int .i64 x7_2 ∧ Aside0 (spec_l3Pack_in.l1 kq l0 x5_2 x7_2 = some r) ∧ Aside0 (kq ≤ k1) ∧ Aside0 (Kd.R (Kd.int .u8) 5 w' w.heap.size (fun _ => True) v5 x5_2) ∧ Aside0 (Below w.heap.size w w'))
             case atStart => exact ⟨(y215), (0), pF, H', ⟨Nat.le_refl _⟩, ⟨(pT (Kd.R_mono HO217.out (fun _ hk => trivial)))⟩, ⟨pB⟩⟩
             case round =>
              clear H'
              (try clear c1); (try clear p1); (try clear q1); (try clear hx1); (try clear qi1); (try clear c2); (try clear p2); (try clear q2); (try clear hx2); (try clear qi2); (try clear c3); (try clear c4); (try clear p6); (try clear c8); (try clear c12); (try clear c13); (try clear c13b0); (try clear c14); (try clear c16); (try clear c18); (try clear p18); (try clear q18); (try clear hx18); (try clear qi18); (try clear c19); (try clear p19); (try clear q19); (try clear hx19); (try clear c20); (try clear p20); (try clear q20); (try clear hx20); (try clear qi20); (try clear c21); (try clear p21); (try clear q21); (try clear hx21); (try clear qi21); (try clear c32); (try clear c42); (try clear hx184_0); (try clear hx184_1); (try clear hx184_2); (try clear hx185_0); (try clear hx185_1); (try clear hx185_2); (try clear hx186_0); (try clear hx186_1); (try clear hx186_2); (try clear hx193_0); (try clear hx193_1); (try clear hx193_2); (try clear hx200_0); (try clear hx200_1); (try clear hx200_2); (try clear hx201_0); (try clear hx201_1); (try clear hx201_2); (try clear hx211_0); (try clear hx211_1); (try clear hx211_2); (try clear p184); (try clear p185); (try clear p186); (try clear p193); (try clear p200); (try clear p201); (try clear p211); (try clear q184); (try clear q185); (try clear q186); (try clear q193); (try clear q200); (try clear q201); (try clear q211)
              obtain ⟨x5_2, x7_2, rfl, HA, HK2, HO_5, HB⟩ := hrel
              cases gk with
              | zero => exact absurd HA.out (by simp [spec_l3Pack_in.l1])
              | succ k2 =>
               have H := HA.out
               clear HA
               simp only [spec_l3Pack_in.l1] at H
               by_cases c46 : 0 < (l0.length : Int)
               · rw [if_pos c46] at H
                 have c46b0 : decide (0 < (l0.length : Int)) = true := decide_eq_true c46
                 have c46b1 : decide (0 < l0.length) = true := decide_eq_true (by omega)
                 clear c46
                 by_cases c47 : x7_2 < (((rd_T27 l0 0).f2).length : Int)
                 · rw [if_pos c47] at H
                   have c47b0 : decide (x7_2 < (((rd_T27 l0 0).f2).length : Int)) = true := decide_eq_true c47
                   clear c47
                   by_cases c48 : 0 ≤ x7_2
                   · rw [if_pos c48] at H
                     have c48b0 : decide (0 ≤ x7_2) = true := decide_eq_true c48
                     clear c48
                     obtain ⟨t221, A490, H⟩ := bO H
                     replace H : (if x5_2.length + t221.length < 140737488355328 then ((some (x5_2 ++ t221 : List Int)).bind fun y224 => ((spec_l3List.f k2 ((rd_T86 ((rd_T27 l0 0).f2) x7_2).f1)).bind fun t228 => (if y224.length + t228.length < 140737488355328 then (spec_l3Pack_in.l1 k2 l0 (y224 ++ t228) (wrap64 (x7_2 + 1))) else (none)))) else (none)) = some r := H
                     have A49 := Aside0.mk A490; clear A490
                     by_cases c50 : x5_2.length + t221.length < 140737488355328
                     · rw [if_pos c50] at H
                       have LMc50 := Aside0.mk c50; clear c50
                       obtain ⟨y224, hy224⟩ : ∃ y_ : List Int, y_ = (x5_2 ++ t221) := ⟨_, rfl⟩
                       replace H : ((spec_l3List.f k2 ((rd_T86 ((rd_T27 l0 0).f2) x7_2).f1)).bind fun t228 => (if y224.length + t228.length < 140737488355328 then (spec_l3Pack_in.l1 k2 l0 (y224 ++ t228) (wrap64 (x7_2 + 1))) else (none))) = some r := by first | (rw [hy224]; with_reducible exact H) | (have H2_ := (Option.bind_some _ _).symm.trans H; rw [hy224]; with_reducible exact H2_) | (have H2_ := (Option.bind_some _ _).symm.trans H; with_reducible exact H2_) | with_reducible exact H | (rw [hy224]; exact H) | exact H
                       have Ny224 := Aside0.mk hy224; clear hy224
                       obtain ⟨t228, A510, H⟩ := bO H
                       replace H : (if y224.length + t228.length < 140737488355328 then (spec_l3Pack_in.l1 k2 l0 (y224 ++ t228) (wrap64 (x7_2 + 1))) else (none)) = some r := H
                       have A51 := Aside0.mk A510; clear A510
                       by_cases c52 : y224.length + t228.length < 140737488355328
                       · rw [if_pos c52] at H
                         have LMc52 := Aside0.mk c52; clear c52
                         obtain ⟨y231, hy231⟩ : ∃ y_ : List Int, y_ = (y224 ++ t228) := ⟨_, rfl⟩
                         replace H : (spec_l3Pack_in.l1 k2 l0 y231 (wrap64 (x7_2 + 1))) = some r := by first | (rw [hy231]; with_reducible exact H) | (have H2_ := (Option.bind_some _ _).symm.trans H; rw [hy231]; with_reducible exact H2_) | (have H2_ := (Option.bind_some _ _).symm.trans H; with_reducible exact H2_) | with_reducible exact H | (rw [hy231]; exact H) | exact H
                         have Ny231 := Aside0.mk hy231; clear hy231
                         have H' := Aside0.mk H
                         clear H
                         have p218 : 0 ≤ (0 : Int) := (by omega)
                         have q218 : 0 < (l0.length : Int) := pD
                         (try clear hx211_0); (try clear hx211_1); (try clear hx211_2); (try clear hHeld)
                         obtain ⟨ad218, A218_1, c218_1, A218_2, c218_2, e218, hx218_0, hx218_1, hx218_2, hl218_1, hi218_1, hl218_2, hi218_2⟩ := at_T27 HR0.out 0 p218 q218
                         obtain rfl : ad174 = ad218 := (by injection e218)
                         have qi218 : (0 < l0.length) = True := eq_true (by omega)
                         (try rw [z0] at hx218_0); (try rw [Nat.zero_mul] at hx218_0); (try rw [Addr.add_zero'] at hx218_0); (try rw [z0] at hx218_1); (try rw [Nat.zero_mul] at hx218_1); (try rw [Addr.add_zero'] at hx218_1); (try rw [z0] at hx218_2); (try rw [Nat.zero_mul] at hx218_2); (try rw [Addr.add_zero'] at hx218_2); replace hx218_0 := cb HB hx218_0; replace hx218_1 := cb HB hx218_1; replace hx218_2 := cb HB hx218_2; have HR218_1 := Aside0.mk hi218_1; have HC218_1 := Aside0.mk hl218_1; clear hi218_1 hl218_1; have HR218_2 := Aside0.mk hi218_2; have HC218_2 := Aside0.mk hl218_2; clear hi218_2 hl218_2; replace p218 := eq_true p218; replace q218 := eq_true q218
                         try go_wp2
                         have n_ := t2 (Kd.R_drew HO_5.out) (below_drew1 HB.out)
                         clear HO_5 HB; obtain ⟨HO_5, HB⟩ := n_
                         have p219 : 0 ≤ (0 : Int) := (by omega)
                         have q219 : 0 < (l0.length : Int) := pD
                         (try clear hx218_0); (try clear hx218_1); (try clear hx218_2); (try clear hHeld)
                         obtain ⟨ad219, A219_1, c219_1, A219_2, c219_2, e219, hx219_0, hx219_1, hx219_2, hl219_1, hi219_1, hl219_2, hi219_2⟩ := at_T27 HR0.out 0 p219 q219
                         have hw219_2 := hx219_2
                         (try rw [z0] at hw219_2); (try rw [Nat.zero_mul] at hw219_2); (try rw [Addr.add_zero'] at hw219_2)
                         have hw219_1 := hx219_1
                         (try rw [z0] at hw219_1); (try rw [Nat.zero_mul] at hw219_1); (try rw [Addr.add_zero'] at hw219_1)
                         have hw219_0 := hx219_0
                         (try rw [z0] at hw219_0); (try rw [Nat.zero_mul] at hw219_0); (try rw [Addr.add_zero'] at hw219_0)
                         obtain rfl : ad174 = ad219 := (by injection e219)
                         have qi219 : (0 < l0.length) = True := eq_true (by omega)
                         (try rw [z0] at hx219_0); (try rw [Nat.zero_mul] at hx219_0); (try rw [Addr.add_zero'] at hx219_0); (try rw [z0] at hx219_1); (try rw [Nat.zero_mul] at hx219_1); (try rw [Addr.add_zero'] at hx219_1); (try rw [z0] at hx219_2); (try rw [Nat.zero_mul] at hx219_2); (try rw [Addr.add_zero'] at hx219_2); replace hx219_0 := cb HB hx219_0; replace hx219_1 := cb HB hx219_1; replace hx219_2 := cb HB hx219_2; have HR219_1 := Aside0.mk hi219_1; have HC219_1 := Aside0.mk hl219_1; clear hi219_1 hl219_1; have HR219_2 := Aside0.mk hi219_2; have HC219_2 := Aside0.mk hl219_2; clear hi219_2 hl219_2; replace p219 := eq_true p219; replace q219 := eq_true q219
                         have p220 : 0 ≤ (x7_2 : Int) := pD
                         have q220 : x7_2 < (((rd_T27 l0 0).f2).length : Int) := pD
                         obtain ⟨ad220, A220_1, c220_1, e220, hx220_0, hx220_1, hl220_1, hi220_1⟩ := at_T86 HR219_2.out x7_2 p220 q220
                         have hw220_1 := hx220_1
                         have hw220_0 := hx220_0
                         cases e220; replace hx220_0 := cb HB hx220_0; replace hx220_1 := cb HB hx220_1; have HR220_1 := Aside0.mk hi220_1; have HC220_1 := Aside0.mk hl220_1; clear hi220_1 hl220_1; replace p220 := eq_true p220; replace q220 := eq_true q220
                         have p227 : 0 ≤ (x7_2 : Int) := pD
                         have q227 : x7_2 < (((rd_T27 l0 0).f2).length : Int) := pD
                         obtain ⟨ad227, A227_1, c227_1, e227, hx227_0, hx227_1, hl227_1, hi227_1⟩ := at_T86 HR219_2.out x7_2 p227 q227
                         have hw227_1 := hx227_1
                         have hw227_0 := hx227_0
                         obtain rfl : ad220 = ad227 := (by injection e227)
                         replace hx227_0 := cb HB hx227_0; replace hx227_1 := cb HB hx227_1; have HR227_1 := Aside0.mk hi227_1; have HC227_1 := Aside0.mk hl227_1; clear hi227_1 hl227_1; replace p227 := eq_true p227; replace q227 := eq_true q227
                         have ea_ := Option.some.inj (hx220_1.symm.trans hx227_1)
                         injection ea_ with ea_ en_ ec_
                         subst ea_; subst ec_; clear en_
                         refine start_ (n := 22) (S := fun w' => w'.cell? ad174 = some (.int .i64 ((rd_T27 l0 0).f0)) ∧ w'.cell? ⟨ad174.block, ad174.off + 1, none⟩ = some (.slice A219_1 ((rd_T27 l0 0).f1).length c219_1) ∧ w'.cell? ⟨ad174.block, ad174.off + 2, none⟩ = some (.slice (some ad220) ((rd_T27 l0 0).f2).length c219_2) ∧ w'.cell? (ad220.add ((x7_2).toNat * 2)) = some (.int .i64 ((rd_T86 ((rd_T27 l0 0).f2) x7_2).f0)) ∧ w'.cell? ⟨(ad220.add ((x7_2).toNat * 2)).block, (ad220.add ((x7_2).toNat * 2)).off + 1, none⟩ = some (.slice A220_1 ((rd_T86 ((rd_T27 l0 0).f2) x7_2).f1).length c220_1) ∧ w'.cell? (ad220.add ((x7_2).toNat * 2)) = some (.int .i64 ((rd_T86 ((rd_T27 l0 0).f2) x7_2).f0)) ∧ w'.cell? ⟨(ad220.add ((x7_2).toNat * 2)).block, (ad220.add ((x7_2).toNat * 2)).off + 1, none⟩ = some (.slice A220_1 ((rd_T86 ((rd_T27 l0 0).f2) x7_2).f1).length c220_1)) (ds := []) #[false, false, false, false, false, false, false, false, false, false, false, false, false, false, false, false, false, false, false, false, false, false] (by kernel_rfl) rfl rfl ⟨(cb HB hw219_0), (cb HB hw219_1), (cb HB hw219_2), (cb HB hw220_0), (cb HB hw220_1), (cb HB hw227_0), (cb HB hw227_1)⟩ (fun hHeld => ?_); refine with_tabW spec_l3Pack_in.tab13 spec_l3Pack_in.bits13 (fun HT_ HW_ => ?_)
                         generalize wr.drew = w53 at HO_5 HB HR219_1 HR219_2 HR220_1 HR227_1 hx219_0 hx219_1 hx219_2 hx220_0 hx220_1 hx227_0 hx227_1 hHeld ⊢
                         refine rP 0 (some 82) #[true, false, false, false, false, false, false, false, false, false, false, false, false, false, false, false, false, false, false, false, false, false] (any_of HT_.out (by kernel_rfl)) ?_
                         refine rP 1 (some 83) #[true, true, false, false, false, false, false, false, false, false, false, false, false, false, false, false, false, false, false, false, false, false] (any_of HT_.out (by kernel_rfl)) ?_
                         refine rP 2 (some 84) #[true, true, true, false, false, false, false, false, false, false, false, false, false, false, false, false, false, false, false, false, false, false] (any_of HT_.out (by kernel_rfl)) ?_
                         refine rP 3 (some 85) #[true, true, true, true, false, false, false, false, false, false, false, false, false, false, false, false, false, false, false, false, false, false] (any_of HT_.out (by kernel_rfl)) ?_
                         refine rP 5 (some 87) #[true, true, true, true, false, true, false, false, false, false, false, false, false, false, false, false, false, false, false, false, false, false] (any_of HT_.out (by kernel_rfl)) ?_
                         refine rP 11 (some 93) #[true, true, true, true, false, true, false, false, false, false, false, true, false, false, false, false, false, false, false, false, false, false] (any_of HT_.out (by kernel_rfl)) ?_
                         refine rP 12 (some 94) #[true, true, true, true, false, true, false, false, false, false, false, true, true, false, false, false, false, false, false, false, false, false] (any_of HT_.out (by kernel_rfl)) ?_
                         refine rP 13 (some 95) #[true, true, true, true, false, true, false, false, false, false, false, true, true, true, false, false, false, false, false, false, false, false] (any_of HT_.out (by kernel_rfl)) ?_
                         refine rP 15 (some 97) #[true, true, true, true, false, true, false, false, false, false, false, true, true, true, false, true, false, false, false, false, false, false] (any_of HT_.out (by kernel_rfl)) ?_
                         refine rT 4 (some 86) #[true, true, true, true, true, true, false, false, false, false, false, true, true, true, false, true, false, false, false, false, false, false] (take_ofW HT_.out HW_.out (by kernel_rfl)) hHeld ?_
                         refine rP 6 (some 88) #[true, true, true, true, true, true, true, false, false, false, false, true, true, true, false, true, false, false, false, false, false, false] (any_of HT_.out (by kernel_rfl)) ?_
                         refine rP 7 (some 89) #[true, true, true, true, true, true, true, true, false, false, false, true, true, true, false, true, false, false, false, false, false, false] (any_of HT_.out (by kernel_rfl)) ?_
                         refine rT 8 (some 90) #[true, true, true, true, true, true, true, true, true, false, false, true, true, true, false, true, false, false, false, false, false, false] (take_ofW HT_.out HW_.out (by kernel_rfl)) hHeld ?_
                         refine rT 14 (some 96) #[true, true, true, true, true, true, true, true, true, false, false, true, true, true, true, true, false, false, false, false, false, false] (take_ofW HT_.out HW_.out (by kernel_rfl)) hHeld ?_
                         refine rP 16 (some 98) #[true, true, true, true, true, true, true, true, true, false, false, true, true, true, true, true, true, false, false, false, false, false] (any_of HT_.out (by kernel_rfl)) ?_
                         refine rP 17 (some 99) #[true, true, true, true, true, true, true, true, true, false, false, true, true, true, true, true, true, true, false, false, false, false] (any_of HT_.out (by kernel_rfl)) ?_
                         refine rT 18 (some 100) #[true, true, true, true, true, true, true, true, true, false, false, true, true, true, true, true, true, true, true, false, false, false] (take_ofW HT_.out HW_.out (by kernel_rfl)) hHeld ?_
                         refine one_ (i := 9) (N := some 91) #[true, true, true, true, true, true, true, true, true, true, false, true, true, true, true, true, true, true, true, false, false, false] rfl rfl (one_of HT_.out (by kernel_rfl)) (by decide) (fun K hK => ?_)
                         refine goes_ Try.func125 (by kernel_rfl) rfl #[.int .i64 ((rd_T86 ((rd_T27 l0 0).f2) x7_2).f0)] (by rfl) rfl rfl pA ?_
                         with_reducible refine (spec_l3Big.calls ((rd_T86 ((rd_T27 l0 0).f2) x7_2).f0) t221 _ A49.out).mono ?_
                         rintro e w54 ⟨v222, rfl, ho0, hb⟩
                         refine ⟨_, rfl, ?_⟩
                         have n_ := t3 (Kd.R_elder' (pR HO_5) (Kd.R_base ho0) hb) (Kd.R_lower (Kd.R_new' ho0 (Kd.R_lt (pR HO_5))) (below_size pB)) (below_step pB hb)
                         clear HO_5 HB; obtain ⟨HO_5, HO223, HB⟩ := n_; (try clear hb); (try clear hb2); (try clear hk); (try clear hi); (try clear ho0)
                         obtain ⟨Ao56, co56, eo56⟩ := Kd.R_slice HO223.out
                         (first | subst eo56 | (injection eo56 with f1_ f2_ f3_; have f4_ := f1_.symm; have f5_ := f3_.symm; clear f1_ f2_ f3_; subst f4_; subst f5_))
                         refine hK.out _ _ ⟨(cb HB hw219_0), (cb HB hw219_1), (cb HB hw219_2), (cb HB hw220_0), (cb HB hw220_1), (cb HB hw227_0), (cb HB hw227_1)⟩ (fun hHeld => ?_)
                         clear hK K
                         refine rN ?_
                         refine one_ (i := 10) (N := some 92) #[true, true, true, true, true, true, true, true, true, true, true, true, true, true, true, true, true, true, true, false, false, false] rfl rfl (one_of HT_.out (by kernel_rfl)) (by decide) (fun K hK => ?_)
                         refine Kd.R_append_rows_step (Kd.int .u8) (w0 := w) w.heap.size (by rfl) (.tmp 82) (.tmp 91) 22 5 (.int .u8 0) 1 rfl Try.underlying22 info5 rfl (by decide) (by omega) u5 x5_2 t221 _ _ _ (fun k_ => some k_ ≠ (.slice Ao56 t221.length co56 : Value).ownBlock) (fun _ => False) rfl rfl ?aO ?aR (fun _ _ h => h) (fun _ h => h.elim) ?aF ?aB ?aS ?aL ?_
                         (case aR => exact pC (Kd.R_reads' HO223.out).2.2)
                         (case aB => exact pB)
                         (case aF => exact (fun k_ hk => Kd.fresh' (Kd.R_lt (pR HO223)) k_ hk))
                         (case aO => exact (pT (Kd.R_mono HO_5.out (fun _ hk => hk.2))))
                         (case aS => exact (below_size pB))
                         (case aL => have := LMc50.out; omega)
                         intro v225 w55 ho hb hg hat
                         rw [← Ny224.out] at ho
                         have n_ := t3 (Kd.R_after (ok := (fun _ => True)) (pR HO223) hg hat) (hb) (ho)
                         clear HO223 HB HO_5; obtain ⟨HO223, HB, HO226⟩ := n_; clear ho hb hg hat
                         refine hK.out _ _ ⟨(cb HB hw219_0), (cb HB hw219_1), (cb HB hw219_2), (cb HB hw220_0), (cb HB hw220_1), (cb HB hw227_0), (cb HB hw227_1)⟩ (fun hHeld => ?_)
                         clear hK K
                         refine rN ?_
                         refine one_ (i := 19) (N := some 101) #[true, true, true, true, true, true, true, true, true, true, true, true, true, true, true, true, true, true, true, true, false, false] rfl rfl (one_of HT_.out (by kernel_rfl)) (by decide) (fun K hK => ?_)
                         refine goes_ Try.func126 (by kernel_rfl) rfl #[.slice A220_1 ((rd_T86 ((rd_T27 l0 0).f2) x7_2).f1).length c220_1] (by rfl) rfl rfl pA ?_
                         with_reducible refine (spec_l3List.calls k2 _ _ ((rd_T86 ((rd_T27 l0 0).f2) x7_2).f1) t228 _ ?side1 ?side2 A51.out).mono ?_
                         (case side1 => exact pC (Kd.C_below HR227_1.out HB.out))
                         (case side2 => exact HC227_1.out)
                         rintro e w57 ⟨v229, rfl, ho0, hb⟩
                         refine ⟨_, rfl, ?_⟩
                         have n_ := t4 (Kd.R_elder' (pR HO223) (Kd.R_base ho0) hb) (Kd.R_elder' (pR HO226) (Kd.R_base ho0) hb) (Kd.R_lower (Kd.R_new' (Kd.R_new' ho0 (Kd.R_lt (pR HO223))) (Kd.R_lt (pR HO226))) (below_size pB)) (below_step pB hb)
                         clear HO223 HO226 HB; obtain ⟨HO223, HO226, HO230, HB⟩ := n_; (try clear hb); (try clear hb2); (try clear hk); (try clear hi); (try clear ho0)
                         obtain ⟨Ao59, co59, eo59⟩ := Kd.R_slice HO230.out
                         (first | subst eo59 | (injection eo59 with f1_ f2_ f3_; have f4_ := f1_.symm; have f5_ := f3_.symm; clear f1_ f2_ f3_; subst f4_; subst f5_))
                         refine hK.out _ _ ⟨(cb HB hw219_0), (cb HB hw219_1), (cb HB hw219_2), (cb HB hw220_0), (cb HB hw220_1), (cb HB hw227_0), (cb HB hw227_1)⟩ (fun hHeld => ?_)
                         clear hK K
                         refine rN ?_
                         refine one_ (i := 20) (N := some 102) #[true, true, true, true, true, true, true, true, true, true, true, true, true, true, true, true, true, true, true, true, true, false] rfl rfl (one_of HT_.out (by kernel_rfl)) (by decide) (fun K hK => ?_)
                         refine Kd.R_append_rows_step (Kd.int .u8) (w0 := w) w.heap.size (by rfl) (.tmp 92) (.tmp 101) 22 5 (.int .u8 0) 1 rfl Try.underlying22 info5 rfl (by decide) (by omega) v225 y224 t228 _ _ _ (fun k_ => some k_ ≠ (.slice Ao56 t221.length co56 : Value).ownBlock ∧ some k_ ≠ (.slice Ao59 t228.length co59 : Value).ownBlock) (fun _ => False) rfl rfl ?aO ?aR (fun _ _ h => h) (fun _ h => h.elim) ?aF ?aB ?aS ?aL ?_
                         (case aR => exact pC (Kd.R_reads' HO230.out).2.2)
                         (case aB => exact pB)
                         (case aF => exact (fun k_ hk => ⟨Kd.fresh' (Kd.R_lt (pR HO223)) k_ hk, Kd.fresh' (Kd.R_lt (pR HO230)) k_ hk⟩))
                         (case aO => exact (pR HO226))
                         (case aS => exact (below_size pB))
                         (case aL => have := LMc52.out; omega)
                         intro v232 w58 ho hb hg hat
                         rw [← Ny231.out] at ho
                         have n_ := t4 (Kd.R_after (ok := (fun k_ => some k_ ≠ (.slice Ao59 t228.length co59 : Value).ownBlock)) (pT (Kd.R_mono HO223.out (fun _ hk => ⟨hk.2, hk.1.2⟩))) hg hat) (Kd.R_after (ok := (fun k_ => some k_ ≠ (.slice Ao56 t221.length co56 : Value).ownBlock)) (pT (Kd.R_mono HO230.out (fun _ hk => ⟨hk.1.2, hk.2⟩))) hg hat) (hb) (ho)
                         clear HO223 HO230 HB HO226; obtain ⟨HO223, HO230, HB, HO233⟩ := n_; clear ho hb hg hat
                         refine hK.out _ _ ⟨(cb HB hw219_0), (cb HB hw219_1), (cb HB hw219_2), (cb HB hw220_0), (cb HB hw220_1), (cb HB hw227_0), (cb HB hw227_1)⟩ (fun hHeld => ?_)
                         clear hK K
                         refine rN ?_
                         refine rP 21 (some 5) #[true, true, true, true, true, true, true, true, true, true, true, true, true, true, true, true, true, true, true, true, true, true] (any_of HT_.out (by kernel_rfl)) ?_
                         refine done_ (done_of HT_.out (by kernel_rfl)) ?_
                         try go_wp2
                         go_roundg k2
                         case measure => have := HK1.out; have := HK2.out; omega
                         case rel => exact ⟨(y231), (wrap64 (x7_2 + 1)), pF, H', ⟨by have := HK1.out; have := HK2.out; omega⟩, ⟨(pT (Kd.R_mono HO233.out (fun _ hk => trivial)))⟩, ⟨pB⟩⟩
                       · rw [if_neg c52] at H
                         exact absurd H (by simp)
                     · rw [if_neg c50] at H
                       exact absurd H (by simp)
                   · rw [if_neg c48] at H
                     exact absurd H (by simp)
                 · rw [if_neg c47] at H
                   have c47b0 : decide (x7_2 < (((rd_T27 l0 0).f2).length : Int)) = false := decide_eq_false c47
                   clear c47
                   obtain rfl := Option.some.inj H
                   have p218 : 0 ≤ (0 : Int) := (by omega)
                   have q218 : 0 < (l0.length : Int) := pD
                   obtain ⟨ad218, A218_1, c218_1, A218_2, c218_2, e218, hx218_0, hx218_1, hx218_2, hl218_1, hi218_1, hl218_2, hi218_2⟩ := at_T27 HR0.out 0 p218 q218
                   obtain rfl : ad174 = ad218 := (by injection e218)
                   have qi218 : (0 < l0.length) = True := eq_true (by omega)
                   (try rw [z0] at hx218_0); (try rw [Nat.zero_mul] at hx218_0); (try rw [Addr.add_zero'] at hx218_0); (try rw [z0] at hx218_1); (try rw [Nat.zero_mul] at hx218_1); (try rw [Addr.add_zero'] at hx218_1); (try rw [z0] at hx218_2); (try rw [Nat.zero_mul] at hx218_2); (try rw [Addr.add_zero'] at hx218_2); replace hx218_0 := cb HB hx218_0; replace hx218_1 := cb HB hx218_1; replace hx218_2 := cb HB hx218_2; have HR218_1 := Aside0.mk hi218_1; have HC218_1 := Aside0.mk hl218_1; clear hi218_1 hl218_1; have HR218_2 := Aside0.mk hi218_2; have HC218_2 := Aside0.mk hl218_2; clear hi218_2 hl218_2; replace p218 := eq_true p218; replace q218 := eq_true q218
                   go_wp2
                   go_ret
                   exact ⟨_, pE, (pR HO_5), pB⟩
               · rw [if_neg c46] at H
                 exact absurd H (by simp)
           · rw [if_neg c42] at H
             exact absurd H (by simp)
       · rw [if_neg c12] at H
         exact absurd H (by simp)
   · rw [if_neg c6] at H
     exact absurd H (by simp)
 · rw [if_neg c3] at H
   exact absurd H (by simp)
end Go.Proofs.Ythjlbpgiaehjnaa.QFnExactBlockFault
