-- written by this session's program (wip/tools/myprint.py)
import Derived.Test.YthjlbpgiaehjnaaQFnExactPackTxx0
import Derived.Test.YthjlbpgiaehjnaaQFnExactPackTxx3
import Derived.Test.YthjlbpgiaehjnaaQFnExactPackTxx4
-- squeezed
namespace Go.Proofs.Ythjlbpgiaehjnaa.QFnExactPackTx
open Go.RowKit Go.Proofs.YthjlbpgiaehjnaaW.PrintWords Go.Proofs.YthjlbpgiaehjnaaW.PrintLast Go.Proofs.YthjlbpgiaehjnaaW.PrintMore
attribute [local go_sem] max2_int min2_int max_two min_two max_three min_three max_four min_four   -- for this text's walks alone
set_option linter.unusedVariables false
set_option linter.unusedSimpArgs false
set_option maxHeartbeats 8000000
set_option maxRecDepth 100000
mutual
def impl_packTx.l0 : Nat → List Int → List (S34) → Int → Int → Int → List (S34) → List (S86) → Option (List Int)
 | 0, _, _, _, _, _, _, _ => none
 | k + 1, x3, x17, x18, x19, x177000, x177001, x177002 => if x19 < x18 then (if 0 ≤ x19 then (if x19 < (x17.length : Int) then ((impl_halves.f ((rd_T34 x17 x19).f0)).bind fun t188 => ((impl_putVar.f ((rd_T34 x17 x19).f1)).bind fun t191 => ((impl_numbers.f k ((rd_T34 x17 x19).f2)).bind fun t194 => ((slices_Concat_byte_byte.f k (([x3, t188, t191, t194] : List (List Int)))).bind fun t200 => (impl_packTx.l0 k t200 x17 x18 (wrap64 (x19 + 1)) x177000 x177001 x177002))))) else (none)) else (none)) else ((impl_putVar.f (x177002.length : Int)).bind fun t203 => (if x3.length + t203.length < 140737488355328 then (impl_packTx.l1 k (x3 ++ t203) x177002 (x177002.length : Int) 0) else (none)))
def impl_packTx.l1 : Nat → List Int → List (S86) → Int → Int → Option (List Int)
 | 0, _, _, _, _ => none
 | k + 1, x3, x43, x44, x45 => if x45 < x44 then (if 0 ≤ x45 then (if x45 < (x43.length : Int) then ((impl_halves.f ((rd_T86 x43 x45).f0)).bind fun t211 => ((impl_numbers.f k ((rd_T86 x43 x45).f1)).bind fun t214 => ((slices_Concat_byte_byte.f k (([x3, t211, t214] : List (List Int)))).bind fun t220 => (impl_packTx.l1 k t220 x43 x44 (wrap64 (x45 + 1)))))) else (none)) else (none)) else (some x3)
end
def impl_packTx.f (k : Nat) (a0_0 : Int) (l0_1 : List (S34)) (l0_2 : List (S86)) : Option (List Int) := (impl_putVar.f a0_0).bind fun t177 => ((impl_putVar.f (l0_1.length : Int)).bind fun t180 => (if t177.length + t180.length < 140737488355328 then (impl_packTx.l0 k (t177 ++ t180) l0_1 (l0_1.length : Int) 0 a0_0 l0_1 l0_2) else (none)))
theorem impl_packTx.mono_l : ∀ k, (∀ y0 y1 y2 y3 y4 y5 y6, LeO (impl_packTx.l0 k y0 y1 y2 y3 y4 y5 y6) (impl_packTx.l0 (k + 1) y0 y1 y2 y3 y4 y5 y6)) ∧ (∀ y0 y1 y2 y3, LeO (impl_packTx.l1 k y0 y1 y2 y3) (impl_packTx.l1 (k + 1) y0 y1 y2 y3))
 | 0 => ⟨fun _ _ _ _ _ _ _ r h => by simp [impl_packTx.l0] at h, fun _ _ _ _ r h => by simp [impl_packTx.l1] at h⟩
 | k + 1 => by
  obtain ⟨ih0, ih1⟩ := impl_packTx.mono_l k
  refine ⟨?_, ?_⟩
  · intro y0 y1 y2 y3 y4 y5 y6
    unfold impl_packTx.l0
    repeat' with_reducible first | exact ih0 _ _ _ _ _ _ _ | exact ih1 _ _ _ _ | exact impl_numbers.mono _ _ | exact slices_Concat_byte_byte.mono _ _ | exact LeO.refl _ | exact LeO.none _ | refine LeO.ite ?_ ?_ | refine LeO.bind ?_ (fun _ => ?_)
  · intro y0 y1 y2 y3
    unfold impl_packTx.l1
    repeat' with_reducible first | exact ih0 _ _ _ _ _ _ _ | exact ih1 _ _ _ _ | exact impl_numbers.mono _ _ | exact slices_Concat_byte_byte.mono _ _ | exact LeO.refl _ | exact LeO.none _ | refine LeO.ite ?_ ?_ | refine LeO.bind ?_ (fun _ => ?_)
theorem impl_packTx.mono : ∀ a0 a1 a2 k, LeO (impl_packTx.f k a0 a1 a2) (impl_packTx.f (k + 1) a0 a1 a2) := by
 intro a0 a1 a2 k
 obtain ⟨ih0, ih1⟩ := impl_packTx.mono_l k
 unfold impl_packTx.f
 repeat' with_reducible first | exact ih0 _ _ _ _ _ _ _ | exact ih1 _ _ _ _ | exact impl_numbers.mono _ _ | exact slices_Concat_byte_byte.mono _ _ | exact LeO.refl _ | exact LeO.none _ | refine LeO.ite ?_ ?_ | refine LeO.bind ?_ (fun _ => ?_)
def impl_packTx.T1 : Bool × List (List Nat × List Nat) := (true, [([], []), ([0], [0]), ([1], [1]), ([], []), ([3], [3]), ([4], [4]), ([5, 2], [5]), ([2, 6, 6], [2, 6]), ([7, 7, 0, 1, 2, 3, 4, 5, 6, 7], [7])])
def impl_packTx.B1 : List Nat := [0, 1, 3, 0, 8, 24, 63, 127, 255]
theorem impl_packTx.tab1 : rtab .any (opsOf Try.f56 1) = impl_packTx.T1 := by kernel_rfl
theorem impl_packTx.bits1 : waitsOk impl_packTx.T1.2 impl_packTx.B1 = true := by kernel_rfl
def impl_packTx.T5 : Bool × List (List Nat × List Nat) := (true, [([], []), ([], []), ([1], [1]), ([2], [2]), ([], []), ([4], [4]), ([5, 3], [5]), ([], []), ([7], [7]), ([8, 6], [8]), ([0, 3, 6, 9], [0, 3, 6, 9]), ([10, 9], [10]), ([11, 11, 0, 1, 2, 3, 4, 5, 6, 7, 8, 9, 10, 11], [0, 11])])
def impl_packTx.B5 : List Nat := [0, 0, 2, 6, 0, 16, 62, 0, 128, 510, 1023, 2047, 4095]
theorem impl_packTx.tab5 : rtab .any (opsOf Try.f56 5) = impl_packTx.T5 := by kernel_rfl
theorem impl_packTx.bits5 : waitsOk impl_packTx.T5.2 impl_packTx.B5 = true := by kernel_rfl
def impl_packTx.T11 : Bool × List (List Nat × List Nat) := (true, [([], []), ([], []), ([1], [1]), ([2], [2]), ([], []), ([4], [4]), ([5, 3], [5]), ([0, 3, 6], [0, 3, 6]), ([7, 6], [7]), ([8, 8, 0, 1, 2, 3, 4, 5, 6, 7, 8], [0, 8])])
def impl_packTx.B11 : List Nat := [0, 0, 2, 6, 0, 16, 62, 127, 255, 511]
theorem impl_packTx.tab11 : rtab .any (opsOf Try.f56 11) = impl_packTx.T11 := by kernel_rfl
theorem impl_packTx.bits11 : waitsOk impl_packTx.T11.2 impl_packTx.B11 = true := by kernel_rfl
theorem impl_packTx.calls (k : Nat) (a0_0 : Int) (A0_1 : Option Addr) (c0_1 : Nat) (l0_1 : List (S34)) (A0_2 : Option Addr) (c0_2 : Nat) (l0_2 : List (S86)) (r : List Int) (w : World) (hr0_1 : Kd.C k34 w A0_1 l0_1.length l0_1) (hc0_1 : l0_1.length ≤ c0_1) (hr0_2 : Kd.C k86 w A0_2 l0_2.length l0_2) (hc0_2 : l0_2.length ≤ c0_2) (h : impl_packTx.f k a0_0 l0_1 l0_2 = some r) :
 Calls Try.prog 56 #[.agg #[.int .i64 a0_0, .slice A0_1 l0_1.length c0_1, .slice A0_2 l0_2.length c0_2]] w fun e w' => ∃ v0_ : Value, e = .returned (v0_) ∧ Kd.R (Kd.int .u8) 5 w' w.heap.size (fun _ => True) v0_ r ∧ Below w.heap.size w w' := by
 have hu27 := Try.underlying27
 have hu34 := Try.underlying34
 have hu86 := Try.underlying86
 have HR0_1 := am hr0_1; have HC0_1 := am hc0_1; clear hr0_1 hc0_1; have HR0_2 := am hr0_2; have HC0_2 := am hc0_2; clear hr0_2 hc0_2
 have HB := am (Below.refl w.heap.size w)
 have H : ((impl_putVar.f a0_0).bind fun t177 => ((impl_putVar.f (l0_1.length : Int)).bind fun t180 => (if t177.length + t180.length < 140737488355328 then (impl_packTx.l0 k (t177 ++ t180) l0_1 (l0_1.length : Int) 0 a0_0 l0_1 l0_2) else (none)))) = some r := h
 clear h
 obtain ⟨t177, A20, H⟩ := bO H
 replace H : ((impl_putVar.f (l0_1.length : Int)).bind fun t180 => (if t177.length + t180.length < 140737488355328 then (impl_packTx.l0 k (t177 ++ t180) l0_1 (l0_1.length : Int) 0 a0_0 l0_1 l0_2) else (none))) = some r := H
 have A2 := am A20; clear A20
 obtain ⟨t180, A30, H⟩ := bO H
 replace H : (if t177.length + t180.length < 140737488355328 then (impl_packTx.l0 k (t177 ++ t180) l0_1 (l0_1.length : Int) 0 a0_0 l0_1 l0_2) else (none)) = some r := H
 have A3 := am A30; clear A30
 by_cases c4 : t177.length + t180.length < 140737488355328
 · rw [if_pos c4] at H
   have LMc4 := am c4; clear c4
   obtain ⟨y183, hy183⟩ : ∃ y_ : List Int, y_ = (t177 ++ t180) := ⟨_, rfl⟩
   replace H : (impl_packTx.l0 k y183 l0_1 (l0_1.length : Int) 0 a0_0 l0_1 l0_2) = some r := by first | (rw [hy183]; with_reducible exact H) | (have H2_ := (Option.bind_some _ _).symm.trans H; rw [hy183]; with_reducible exact H2_) | (have H2_ := (Option.bind_some _ _).symm.trans H; with_reducible exact H2_) | with_reducible exact H | (rw [hy183]; exact H) | exact H
   have Ny183 := am hy183; clear hy183
   have H' := am H
   clear H
   go_enter Try.func56, Try.ntmps56
   try go_wp2_with (first | ((with_reducible refine gate_dst (N := 1) rfl ?_); refine box_event ?hg (N := 1) ?hd (cs := #[.int .i64 a0_0, .slice A0_1 l0_1.length c0_1, .slice A0_2 l0_2.length c0_2]) (t := 27) ?hr ?_; (case hd => rfl); (case hg => rfl); (case hr => first | (go_simp; done) | (go_simp; rfl)); intro gb176 hg w5 hbox hb; have n_ := t4 (bz_ pB hb) (hbox) ((by rw [hg]; exact (bs_ pB) : w.heap.size ≤ gb176)) ((by rw [hg]; exact (bs_ pB) : w.heap.size ≤ gb176)); clear HB; obtain ⟨HB, BK176, GW176, GE176⟩ := n_; clear hb hbox hg))
   have n_ := t2 (blk_drew BK176.out) (below_drew1 HB.out)
   clear BK176 HB; obtain ⟨BK176, HB⟩ := n_
   refine start_ (n := 9) (S := fun w' => w'.cell? ⟨gb176, 0, none⟩ = some (.int .i64 a0_0) ∧ w'.cell? ⟨gb176, 1, none⟩ = some (.slice A0_1 l0_1.length c0_1) ∧ w'.cell? ⟨gb176, 2, none⟩ = some (.slice A0_2 l0_2.length c0_2)) (ds := []) #[false, false, false, false, false, false, false, false, false] (by kernel_rfl) rfl rfl ⟨(blk_cell BK176.out 0).trans rfl, (blk_cell BK176.out 1).trans rfl, (blk_cell BK176.out 2).trans rfl⟩ (fun hHeld => ?_); refine with_tabW impl_packTx.tab1 impl_packTx.bits1 (fun HT_ HW_ => ?_)
   generalize w5.drew = w6 at BK176 HB hHeld ⊢
   refine rP 0 (some 8) #[true, false, false, false, false, false, false, false, false] (any_of HT_.out (by kernel_rfl)) ?_
   refine rP 3 (some 11) #[true, false, false, true, false, false, false, false, false] (any_of HT_.out (by kernel_rfl)) ?_
   refine rT 1 (some 9) #[true, true, false, true, false, false, false, false, false] (take_ofW HT_.out HW_.out (by kernel_rfl)) hHeld ?_
   refine rT 4 (some 12) #[true, true, false, true, true, false, false, false, false] (take_ofW HT_.out HW_.out (by kernel_rfl)) hHeld ?_
   refine rP 5 (some 13) #[true, true, false, true, true, true, false, false, false] (any_of HT_.out (by kernel_rfl)) ?_
   refine one_ (i := 2) (N := some 10) #[true, true, true, true, true, true, false, false, false] rfl rfl (one_of HT_.out (by kernel_rfl)) (by decide) (fun K hK => ?_)
   refine goes_ Try.func79 (by kernel_rfl) rfl #[.int .i64 a0_0] (by rfl) rfl rfl pA ?_
   with_reducible refine (impl_putVar.calls a0_0 t177 _ A2.out).mono ?_
   rintro e w7 ⟨v178, rfl, ho0, hb⟩
   refine ⟨_, rfl, ?_⟩
   have n_ := t3 (rL ho0 (bs_ pB)) (blk_below (g := gb176) (o := .cells #[.int .i64 a0_0, .slice A0_1 l0_1.length c0_1, .slice A0_2 l0_2.length c0_2] 27 (0, 0)) (pK BK176) hb) (bz_ pB hb)
   clear BK176 HB; obtain ⟨HO179, BK176, HB⟩ := n_; (try clear hb); (try clear hb2); (try clear hk); (try clear hi); (try clear ho0)
   refine hK.out _ _ ⟨(blk_cell BK176.out 0).trans rfl, (blk_cell BK176.out 1).trans rfl, (blk_cell BK176.out 2).trans rfl⟩ (fun hHeld => ?_)
   clear hK K
   refine rN ?_
   refine one_ (i := 6) (N := some 14) #[true, true, true, true, true, true, true, false, false] rfl rfl (one_of HT_.out (by kernel_rfl)) (by decide) (fun K hK => ?_)
   refine goes_ Try.func79 (by kernel_rfl) rfl #[.int .i64 (l0_1.length : Int)] (by rfl) rfl rfl pA ?_
   with_reducible refine (impl_putVar.calls (l0_1.length : Int) t180 _ A3.out).mono ?_
   rintro e w8 ⟨v181, rfl, ho0, hb⟩
   refine ⟨_, rfl, ?_⟩
   have n_ := t4 (rE (pR HO179) (rB ho0) hb) (rL (rW ho0 (Kd.R_lt (pR HO179))) (bs_ pB)) (blk_below (g := gb176) (o := .cells #[.int .i64 a0_0, .slice A0_1 l0_1.length c0_1, .slice A0_2 l0_2.length c0_2] 27 (0, 0)) (pK BK176) hb) (bz_ pB hb)
   clear HO179 BK176 HB; obtain ⟨HO179, HO182, BK176, HB⟩ := n_; (try clear hb); (try clear hb2); (try clear hk); (try clear hi); (try clear ho0)
   obtain ⟨Ao10, co10, eo10⟩ := rS HO182.out
   (first | subst eo10 | (injection eo10 with f1_ f2_ f3_; have f4_ := f1_.symm; have f5_ := f3_.symm; clear f1_ f2_ f3_; subst f4_; subst f5_))
   refine hK.out _ _ ⟨(blk_cell BK176.out 0).trans rfl, (blk_cell BK176.out 1).trans rfl, (blk_cell BK176.out 2).trans rfl⟩ (fun hHeld => ?_)
   clear hK K
   refine rN ?_
   refine one_ (i := 7) (N := some 15) #[true, true, true, true, true, true, true, true, false] rfl rfl (one_of HT_.out (by kernel_rfl)) (by decide) (fun K hK => ?_)
   refine Kd.R_append_rows_step (Kd.int .u8) (w0 := w) w.heap.size (by rfl) (.tmp 10) (.tmp 14) 22 5 (.int .u8 0) 1 rfl Try.underlying22 info5 rfl (by decide) (by omega) v178 t177 t180 _ _ _ (fun k_ => some k_ ≠ (.slice Ao10 t180.length co10 : Value).ownBlock) (fun _ => False) rfl rfl ?aO ?aR (fun _ _ h => h) (fun _ h => h.elim) ?aF ?aB ?aS ?aL ?_
   (case aR => exact pC (rr HO182.out).2.2)
   (case aB => exact pB)
   (case aF => exact (fun k_ hk => Kd.fresh' (Kd.R_lt (pR HO182)) k_ hk))
   (case aO => exact (pT (Kd.R_mono HO179.out (fun _ hk => hk.2))))
   (case aS => exact (bs_ pB))
   (case aL => have := LMc4.out; omega)
   intro v184 w9 ho hb hg hat
   rw [← Ny183.out] at ho
   have n_ := t4 (blk_grown (g := gb176) (o := .cells #[.int .i64 a0_0, .slice A0_1 l0_1.length c0_1, .slice A0_2 l0_2.length c0_2] 27 (0, 0)) (pK BK176) hg (Kd.R_ne HO179.out BK176.out (by decide))) (Kd.R_after (ok := (fun _ => True)) (pR HO182) hg hat) (hb) (ho)
   clear BK176 HO182 HB HO179; obtain ⟨BK176, HO182, HB, HO185⟩ := n_; clear ho hb hg hat
   refine hK.out _ _ ⟨(blk_cell BK176.out 0).trans rfl, (blk_cell BK176.out 1).trans rfl, (blk_cell BK176.out 2).trans rfl⟩ (fun hHeld => ?_)
   clear hK K
   refine rN ?_
   refine rP 8 (some 3) #[true, true, true, true, true, true, true, true, true] (any_of HT_.out (by kernel_rfl)) ?_
   refine done_ (done_of HT_.out (by kernel_rfl)) ?_
   obtain ⟨hcz11_0, hcz11_1, hcz11_2, hfz11_0, hfz11_1, hfz11_2⟩ := bx3 BK176
   try go_wp2
   go_loopg [3, 19] k (fun kq v3 v19 w' => ∃ (x3_1 : List Int) (x19_1 : Int), v19 = .int .i64 x19_1 ∧ Aside0 (impl_packTx.l0 kq x3_1 l0_1 (l0_1.length : Int) x19_1 a0_0 l0_1 l0_2 = some r) ∧ Aside0 (kq ≤ k) ∧ Aside0 (Kd.R (Kd.int .u8) 5 w' w.heap.size (fun _ => True) v3 x3_1) ∧ Aside0 (w'.heap[gb176]? = some (.cells #[.int .i64 a0_0, (.slice A0_1 l0_1.length c0_1), (.slice A0_2 l0_2.length c0_2)] 27 (0, 0))) ∧ Aside0 (Below w.heap.size w w'))
   case atStart => exact ⟨(y183), (0), pF, H', ⟨Nat.le_refl _⟩, ⟨(pT (Kd.R_mono HO185.out (fun _ hk => trivial)))⟩, ⟨(pK BK176)⟩, ⟨pB⟩⟩
   case round =>
    clear H'
    (try clear c4); (try clear hcz11_0); (try clear hcz11_1); (try clear hcz11_2); (try clear hfz11_0); (try clear hfz11_1); (try clear hfz11_2)
    obtain ⟨x3_1, x19_1, rfl, HA, HK1, HO_3, BK176, HB⟩ := hrel
    cases gk with
    | zero => exact absurd HA.out (by simp [impl_packTx.l0])
    | succ k1 =>
     have H := HA.out
     clear HA
     simp only [impl_packTx.l0] at H
     by_cases c12 : x19_1 < (l0_1.length : Int)
     · rw [if_pos c12] at H
       have c12b0 : decide (x19_1 < (l0_1.length : Int)) = true := dt c12
       clear c12
       by_cases c13 : 0 ≤ x19_1
       · rw [if_pos c13] at H
         have c13b0 : decide (0 ≤ x19_1) = true := dt c13
         clear c13
         by_cases c14 : x19_1 < (l0_1.length : Int)
         · rw [if_pos c14] at H
           have c14b0 : decide (x19_1 < (l0_1.length : Int)) = true := dt c14
           clear c14
           obtain ⟨t188, A150, H⟩ := bO H
           replace H : ((impl_putVar.f ((rd_T34 l0_1 x19_1).f1)).bind fun t191 => ((impl_numbers.f k1 ((rd_T34 l0_1 x19_1).f2)).bind fun t194 => ((slices_Concat_byte_byte.f k1 (([x3_1, t188, t191, t194] : List (List Int)))).bind fun t200 => (impl_packTx.l0 k1 t200 l0_1 (l0_1.length : Int) (wrap64 (x19_1 + 1)) a0_0 l0_1 l0_2)))) = some r := H
           have A15 := am A150; clear A150
           obtain ⟨t191, A160, H⟩ := bO H
           replace H : ((impl_numbers.f k1 ((rd_T34 l0_1 x19_1).f2)).bind fun t194 => ((slices_Concat_byte_byte.f k1 (([x3_1, t188, t191, t194] : List (List Int)))).bind fun t200 => (impl_packTx.l0 k1 t200 l0_1 (l0_1.length : Int) (wrap64 (x19_1 + 1)) a0_0 l0_1 l0_2))) = some r := H
           have A16 := am A160; clear A160
           obtain ⟨t194, A170, H⟩ := bO H
           replace H : ((slices_Concat_byte_byte.f k1 (([x3_1, t188, t191, t194] : List (List Int)))).bind fun t200 => (impl_packTx.l0 k1 t200 l0_1 (l0_1.length : Int) (wrap64 (x19_1 + 1)) a0_0 l0_1 l0_2)) = some r := H
           have A17 := am A170; clear A170
           obtain ⟨y197, hy197⟩ : ∃ y_ : List (List Int), y_ = (([x3_1, t188, t191, t194] : List (List Int))) := ⟨_, rfl⟩
           replace H : ((slices_Concat_byte_byte.f k1 y197).bind fun t200 => (impl_packTx.l0 k1 t200 l0_1 (l0_1.length : Int) (wrap64 (x19_1 + 1)) a0_0 l0_1 l0_2)) = some r := by first | (rw [hy197]; with_reducible exact H) | (have H2_ := (Option.bind_some _ _).symm.trans H; rw [hy197]; with_reducible exact H2_) | (have H2_ := (Option.bind_some _ _).symm.trans H; with_reducible exact H2_) | with_reducible exact H | (rw [hy197]; exact H) | exact H
           have Ny197 := am hy197; clear hy197
           obtain ⟨t200, A180, H⟩ := bO H
           replace H : (impl_packTx.l0 k1 t200 l0_1 (l0_1.length : Int) (wrap64 (x19_1 + 1)) a0_0 l0_1 l0_2) = some r := H
           have A18 := am A180; clear A180
           have H' := am H
           clear H
           have p186 : 0 ≤ (x19_1 : Int) := pD
           have q186 : x19_1 < (l0_1.length : Int) := pD
           obtain ⟨ad186, A186_2, c186_2, e186, hx186_0, hx186_1, hx186_2, hl186_2, hi186_2⟩ := at_T34 HR0_1.out x19_1 p186 q186
           cases e186; replace hx186_0 := cb HB hx186_0; replace hx186_1 := cb HB hx186_1; replace hx186_2 := cb HB hx186_2; have HR186_2 := am hi186_2; have HC186_2 := am hl186_2; clear hi186_2 hl186_2; replace p186 := eq_true p186; replace q186 := eq_true q186
           try go_wp2_with (first | ((with_reducible refine gate_dst (N := 5) rfl ?_); refine box_event ?hg (N := 5) ?hd (cs := #[.int .i64 0, .int .i64 0, .slice none 0 0]) (t := 34) ?hr ?_; (case hd => rfl); (case hg => rfl); (case hr => first | (go_simp; done) | (go_simp; rfl)); intro gb187 hg w19 hbox hb; have n_ := t8 (Kd.R_below (pR HO_3) hb) (blk_below (g := gb176) (o := .cells #[.int .i64 a0_0, .slice (some ad186) l0_1.length c0_1, .slice A0_2 l0_2.length c0_2] 27 (0, 0)) (pK BK176) hb) (bz_ pB hb) (hbox) ((by rw [hg]; exact (bs_ pB) : w.heap.size ≤ gb187)) ((by rw [hg]; exact (bs_ pB) : w.heap.size ≤ gb187)) ((by rw [hg]; exact Nat.ne_of_lt (blk_lt (g := gb176) (o := .cells #[.int .i64 a0_0, .slice (some ad186) l0_1.length c0_1, .slice A0_2 l0_2.length c0_2] 27 (0, 0)) (pK BK176)) : gb176 ≠ gb187)) ((by rw [hg]; exact Nat.ne_of_gt (blk_lt (g := gb176) (o := .cells #[.int .i64 a0_0, .slice (some ad186) l0_1.length c0_1, .slice A0_2 l0_2.length c0_2] 27 (0, 0)) (pK BK176)) : gb187 ≠ gb176)); clear HO_3 BK176 HB; obtain ⟨HO_3, BK176, HB, BK187, GW187, GE187, NB176_187, NB187_176⟩ := n_; clear hb hbox hg; have hnb20 := NB187_176.out; have hnc20 := NB176_187.out; have hcz21_0 : w19.cell? ⟨gb187, 0, none⟩ = some (.int .i64 0) := (blk_cell BK187.out 0).trans rfl; have hcz21_1 : w19.cell? ⟨gb187, 1, none⟩ = some (.int .i64 0) := (blk_cell BK187.out 1).trans rfl; have hcz21_2 : w19.cell? ⟨gb187, 2, none⟩ = some (.slice none 0 0) := (blk_cell BK187.out 2).trans rfl; have hfz21_0 := blk_frozen BK187.out 0; have hfz21_1 := blk_frozen BK187.out 1; have hfz21_2 := blk_frozen BK187.out 2))
           have n0_ : Aside0 (Kd.R (Kd.int .u8) 5 (((w19.setCell ⟨gb187, 0, none⟩ (.int .i64 ((rd_T34 l0_1 x19_1).f0))).setCell ⟨gb187, 1, none⟩ (.int .i64 ((rd_T34 l0_1 x19_1).f1))).setCell ⟨gb187, 2, none⟩ (.slice A186_2 ((rd_T34 l0_1 x19_1).f2).length c186_2)) w.heap.size (fun _ => True) u3 x3_1) := ⟨(pT (Kd.R_mono (Kd.R_far (p := ⟨gb187, 2, none⟩) (Kd.R_far (p := ⟨gb187, 1, none⟩) (Kd.R_far (p := ⟨gb187, 0, none⟩) (Kd.R_types HO_3.out BK187.out (by decide)) (fun _ hk => hk.2) (.int .i64 ((rd_T34 l0_1 x19_1).f0))) (fun _ hk => hk.2) (.int .i64 ((rd_T34 l0_1 x19_1).f1))) (fun _ hk => hk.2) (.slice A186_2 ((rd_T34 l0_1 x19_1).f2).length c186_2)) (fun _ hk => trivial)))⟩
           have n1_ : Aside0 ((((w19.setCell ⟨gb187, 0, none⟩ (.int .i64 ((rd_T34 l0_1 x19_1).f0))).setCell ⟨gb187, 1, none⟩ (.int .i64 ((rd_T34 l0_1 x19_1).f1))).setCell ⟨gb187, 2, none⟩ (.slice A186_2 ((rd_T34 l0_1 x19_1).f2).length c186_2)).heap[gb176]? = some (.cells #[.int .i64 a0_0, .slice (some ad186) l0_1.length c0_1, .slice A0_2 l0_2.length c0_2] 27 (0, 0))) := ⟨by (with_reducible repeat (first | refine blk_drewN ?_ _ | refine blk_drew ?_ | refine blk_alloc ?_ _)); refine blk_far ?_ NB176_187.out _; (with_reducible repeat (first | refine blk_drewN ?_ _ | refine blk_drew ?_ | refine blk_alloc ?_ _)); refine blk_far ?_ NB176_187.out _; (with_reducible repeat (first | refine blk_drewN ?_ _ | refine blk_drew ?_ | refine blk_alloc ?_ _)); refine blk_far ?_ NB176_187.out _; (with_reducible repeat (first | refine blk_drewN ?_ _ | refine blk_drew ?_ | refine blk_alloc ?_ _)); exact BK176.out⟩
           have n2_ : Aside0 ((((w19.setCell ⟨gb187, 0, none⟩ (.int .i64 ((rd_T34 l0_1 x19_1).f0))).setCell ⟨gb187, 1, none⟩ (.int .i64 ((rd_T34 l0_1 x19_1).f1))).setCell ⟨gb187, 2, none⟩ (.slice A186_2 ((rd_T34 l0_1 x19_1).f2).length c186_2)).heap[gb187]? = some (.cells #[.int .i64 ((rd_T34 l0_1 x19_1).f0), .int .i64 ((rd_T34 l0_1 x19_1).f1), .slice A186_2 ((rd_T34 l0_1 x19_1).f2).length c186_2] 34 (0, 0))) := ⟨by (with_reducible repeat (first | refine blk_drewN ?_ _ | refine blk_drew ?_ | refine blk_alloc ?_ _)); refine blk_put (cs := #[.int .i64 ((rd_T34 l0_1 x19_1).f0), .int .i64 ((rd_T34 l0_1 x19_1).f1), .slice none 0 0]) ?_ 2 _ rfl; (with_reducible repeat (first | refine blk_drewN ?_ _ | refine blk_drew ?_ | refine blk_alloc ?_ _)); refine blk_put (cs := #[.int .i64 ((rd_T34 l0_1 x19_1).f0), .int .i64 0, .slice none 0 0]) ?_ 1 _ rfl; (with_reducible repeat (first | refine blk_drewN ?_ _ | refine blk_drew ?_ | refine blk_alloc ?_ _)); refine blk_put (cs := #[.int .i64 0, .int .i64 0, .slice none 0 0]) ?_ 0 _ rfl; (with_reducible repeat (first | refine blk_drewN ?_ _ | refine blk_drew ?_ | refine blk_alloc ?_ _)); exact BK187.out⟩
           have n3_ : Aside0 (Below w.heap.size w (((w19.setCell ⟨gb187, 0, none⟩ (.int .i64 ((rd_T34 l0_1 x19_1).f0))).setCell ⟨gb187, 1, none⟩ (.int .i64 ((rd_T34 l0_1 x19_1).f1))).setCell ⟨gb187, 2, none⟩ (.slice A186_2 ((rd_T34 l0_1 x19_1).f2).length c186_2))) := ⟨pB⟩
           (try clear HO_3); (try clear BK176); (try clear BK187); (try clear HB)
           generalize (((w19.setCell ⟨gb187, 0, none⟩ (.int .i64 ((rd_T34 l0_1 x19_1).f0))).setCell ⟨gb187, 1, none⟩ (.int .i64 ((rd_T34 l0_1 x19_1).f1))).setCell ⟨gb187, 2, none⟩ (.slice A186_2 ((rd_T34 l0_1 x19_1).f2).length c186_2)) = w22 at n0_ n1_ n2_ n3_ ⊢
           have HO_3 := n0_
           have BK176 := n1_
           have BK187 := n2_
           have HB := n3_
           clear n0_ n1_ n2_ n3_
           have n_ := t4 (Kd.R_drew HO_3.out) (blk_drew BK176.out) (blk_drew BK187.out) (below_drew1 HB.out)
           clear HO_3 BK176 BK187 HB; obtain ⟨HO_3, BK176, BK187, HB⟩ := n_
           refine start_ (n := 13) (S := fun w' => w'.cell? ⟨gb187, 0, none⟩ = some (.int .i64 ((rd_T34 l0_1 x19_1).f0)) ∧ w'.cell? ⟨gb187, 1, none⟩ = some (.int .i64 ((rd_T34 l0_1 x19_1).f1)) ∧ w'.cell? ⟨gb187, 2, none⟩ = some (.slice A186_2 ((rd_T34 l0_1 x19_1).f2).length c186_2)) (ds := []) #[false, false, false, false, false, false, false, false, false, false, false, false, false] (by kernel_rfl) rfl rfl ⟨(blk_cell BK187.out 0).trans rfl, (blk_cell BK187.out 1).trans rfl, (blk_cell BK187.out 2).trans rfl⟩ (fun hHeld => ?_); refine with_tabW impl_packTx.tab5 impl_packTx.bits5 (fun HT_ HW_ => ?_)
           generalize w22.drew = w23 at HO_3 BK176 BK187 HB hHeld ⊢
           refine rP 0 (some 23) #[true, false, false, false, false, false, false, false, false, false, false, false, false] (any_of HT_.out (by kernel_rfl)) ?_
           refine rP 1 (some 24) #[true, true, false, false, false, false, false, false, false, false, false, false, false] (any_of HT_.out (by kernel_rfl)) ?_
           refine rP 4 (some 27) #[true, true, false, false, true, false, false, false, false, false, false, false, false] (any_of HT_.out (by kernel_rfl)) ?_
           refine rP 7 (some 30) #[true, true, false, false, true, false, false, true, false, false, false, false, false] (any_of HT_.out (by kernel_rfl)) ?_
           refine rT 2 (some 25) #[true, true, true, false, true, false, false, true, false, false, false, false, false] (take_ofW HT_.out HW_.out (by kernel_rfl)) hHeld ?_
           refine rT 5 (some 28) #[true, true, true, false, true, true, false, true, false, false, false, false, false] (take_ofW HT_.out HW_.out (by kernel_rfl)) hHeld ?_
           refine rT 8 (some 31) #[true, true, true, false, true, true, false, true, true, false, false, false, false] (take_ofW HT_.out HW_.out (by kernel_rfl)) hHeld ?_
           refine one_ (i := 3) (N := some 26) #[true, true, true, true, true, true, false, true, true, false, false, false, false] rfl rfl (one_of HT_.out (by kernel_rfl)) (by decide) (fun K hK => ?_)
           refine goes_ Try.func105 (by kernel_rfl) rfl #[.int .i64 ((rd_T34 l0_1 x19_1).f0)] (by rfl) rfl rfl pA ?_
           with_reducible refine (impl_halves.calls ((rd_T34 l0_1 x19_1).f0) t188 _ A15.out).mono ?_
           rintro e w24 ⟨v189, rfl, ho0, hb⟩
           refine ⟨_, rfl, ?_⟩
           have n_ := t5 (rE (pR HO_3) (rB ho0) hb) (rL (rW ho0 (Kd.R_lt (pR HO_3))) (bs_ pB)) (blk_below (g := gb176) (o := .cells #[.int .i64 a0_0, .slice (some ad186) l0_1.length c0_1, .slice A0_2 l0_2.length c0_2] 27 (0, 0)) (pK BK176) hb) (blk_below (g := gb187) (o := .cells #[.int .i64 ((rd_T34 l0_1 x19_1).f0), .int .i64 ((rd_T34 l0_1 x19_1).f1), .slice A186_2 ((rd_T34 l0_1 x19_1).f2).length c186_2] 34 (0, 0)) (pK BK187) hb) (bz_ pB hb)
           clear HO_3 BK176 BK187 HB; obtain ⟨HO_3, HO190, BK176, BK187, HB⟩ := n_; (try clear hb); (try clear hb2); (try clear hk); (try clear hi); (try clear ho0)
           refine hK.out _ _ ⟨(blk_cell BK187.out 0).trans rfl, (blk_cell BK187.out 1).trans rfl, (blk_cell BK187.out 2).trans rfl⟩ (fun hHeld => ?_)
           clear hK K
           refine rN ?_
           refine one_ (i := 6) (N := some 29) #[true, true, true, true, true, true, true, true, true, false, false, false, false] rfl rfl (one_of HT_.out (by kernel_rfl)) (by decide) (fun K hK => ?_)
           refine goes_ Try.func79 (by kernel_rfl) rfl #[.int .i64 ((rd_T34 l0_1 x19_1).f1)] (by rfl) rfl rfl pA ?_
           with_reducible refine (impl_putVar.calls ((rd_T34 l0_1 x19_1).f1) t191 _ A16.out).mono ?_
           rintro e w25 ⟨v192, rfl, ho0, hb⟩
           refine ⟨_, rfl, ?_⟩
           have n_ := t6 (rE (pR HO_3) (rB ho0) hb) (rE (pR HO190) (rB ho0) hb) (rL (rW (rW ho0 (Kd.R_lt (pR HO_3))) (Kd.R_lt (pR HO190))) (bs_ pB)) (blk_below (g := gb176) (o := .cells #[.int .i64 a0_0, .slice (some ad186) l0_1.length c0_1, .slice A0_2 l0_2.length c0_2] 27 (0, 0)) (pK BK176) hb) (blk_below (g := gb187) (o := .cells #[.int .i64 ((rd_T34 l0_1 x19_1).f0), .int .i64 ((rd_T34 l0_1 x19_1).f1), .slice A186_2 ((rd_T34 l0_1 x19_1).f2).length c186_2] 34 (0, 0)) (pK BK187) hb) (bz_ pB hb)
           clear HO_3 HO190 BK176 BK187 HB; obtain ⟨HO_3, HO190, HO193, BK176, BK187, HB⟩ := n_; (try clear hb); (try clear hb2); (try clear hk); (try clear hi); (try clear ho0)
           refine hK.out _ _ ⟨(blk_cell BK187.out 0).trans rfl, (blk_cell BK187.out 1).trans rfl, (blk_cell BK187.out 2).trans rfl⟩ (fun hHeld => ?_)
           clear hK K
           refine rN ?_
           refine one_ (i := 9) (N := some 32) #[true, true, true, true, true, true, true, true, true, true, false, false, false] rfl rfl (one_of HT_.out (by kernel_rfl)) (by decide) (fun K hK => ?_)
           refine goes_ Try.func106 (by kernel_rfl) rfl #[.slice A186_2 ((rd_T34 l0_1 x19_1).f2).length c186_2] (by rfl) rfl rfl pA ?_
           with_reducible refine (impl_numbers.calls k1 _ _ ((rd_T34 l0_1 x19_1).f2) t194 _ ?side1 ?side2 A17.out).mono ?_
           (case side1 => exact pC (Kd.C_below HR186_2.out HB.out))
           (case side2 => exact HC186_2.out)
           rintro e w26 ⟨v195, rfl, ho0, hb⟩
           refine ⟨_, rfl, ?_⟩
           have n_ := t7 (rE (pR HO_3) (rB ho0) hb) (rE (pR HO190) (rB ho0) hb) (rE (pR HO193) (rB ho0) hb) (rL (rW (rW (rW ho0 (Kd.R_lt (pR HO_3))) (Kd.R_lt (pR HO190))) (Kd.R_lt (pR HO193))) (bs_ pB)) (blk_below (g := gb176) (o := .cells #[.int .i64 a0_0, .slice (some ad186) l0_1.length c0_1, .slice A0_2 l0_2.length c0_2] 27 (0, 0)) (pK BK176) hb) (blk_below (g := gb187) (o := .cells #[.int .i64 ((rd_T34 l0_1 x19_1).f0), .int .i64 ((rd_T34 l0_1 x19_1).f1), .slice A186_2 ((rd_T34 l0_1 x19_1).f2).length c186_2] 34 (0, 0)) (pK BK187) hb) (bz_ pB hb)
           clear HO_3 HO190 HO193 BK176 BK187 HB; obtain ⟨HO_3, HO190, HO193, HO196, BK176, BK187, HB⟩ := n_; (try clear hb); (try clear hb2); (try clear hk); (try clear hi); (try clear ho0)
           obtain ⟨Ao27, co27, eo27⟩ := rS HO_3.out
           (first | subst eo27 | (injection eo27 with f1_ f2_ f3_; have f4_ := f1_.symm; have f5_ := f3_.symm; clear f1_ f2_ f3_; subst f4_; subst f5_))
           obtain ⟨Ao28, co28, eo28⟩ := rS HO190.out
           (first | subst eo28 | (injection eo28 with f1_ f2_ f3_; have f4_ := f1_.symm; have f5_ := f3_.symm; clear f1_ f2_ f3_; subst f4_; subst f5_))
           obtain ⟨Ao29, co29, eo29⟩ := rS HO193.out
           (first | subst eo29 | (injection eo29 with f1_ f2_ f3_; have f4_ := f1_.symm; have f5_ := f3_.symm; clear f1_ f2_ f3_; subst f4_; subst f5_))
           obtain ⟨Ao30, co30, eo30⟩ := rS HO196.out
           (first | subst eo30 | (injection eo30 with f1_ f2_ f3_; have f4_ := f1_.symm; have f5_ := f3_.symm; clear f1_ f2_ f3_; subst f4_; subst f5_))
           refine hK.out _ _ ⟨(blk_cell BK187.out 0).trans rfl, (blk_cell BK187.out 1).trans rfl, (blk_cell BK187.out 2).trans rfl⟩ (fun hHeld => ?_)
           clear hK K
           refine rN ?_
           refine one_ (i := 10) (N := some 33) #[true, true, true, true, true, true, true, true, true, true, true, false, false] rfl rfl (one_of HT_.out (by kernel_rfl)) (by decide) (fun K hK => ?_)
           refine Kd.N_lit_step (Kd.slice 5 (Kd.int .u8)) _ 22 ?hg (N' := 33) ?hd (xs := ([x3_1, t188, t191, t194] : List (List Int))) (inner := [.slice Ao27 x3_1.length co27, .slice Ao28 t188.length co28, .slice Ao29 t191.length co29, .slice Ao30 t194.length co30]) (ok := (fun k_ => k_ ≠ gb176 ∧ k_ ≠ gb187)) (okp := (fun k_ => k_ ≠ gb176 ∧ k_ ≠ gb187)) ?hr ?hp (fun _ hk => hk) ((show ∀ k_, w26.heap.size ≤ k_ → (fun k_ => k_ ≠ gb176 ∧ k_ ≠ gb187) k_ from fun k_ hk => ⟨Kd.freshB (g := gb176) (o := .cells #[.int .i64 a0_0, .slice (some ad186) l0_1.length c0_1, .slice A0_2 l0_2.length c0_2] 27 (0, 0)) (pK BK176) k_ hk, Kd.freshB (g := gb187) (o := .cells #[.int .i64 ((rd_T34 l0_1 x19_1).f0), .int .i64 ((rd_T34 l0_1 x19_1).f1), .slice A186_2 ((rd_T34 l0_1 x19_1).f2).length c186_2] 34 (0, 0)) (pK BK187) k_ hk⟩) _ (Nat.le_refl _)) (Below.refl _ _) (Nat.le_refl _) (by simp) ?_; (case hd => rfl); (case hg => rfl); (case hr => first | (go_simp; done) | (go_simp; rfl)); (case hp => exact (Reps.one (show Kd.FK (Kd.slice 5 (Kd.int .u8)) _ _ x3_1 [.slice Ao27 x3_1.length co27] from (Kd.FK_slice_mk (rr (Kd.R_mono (ok' := (fun k_ => k_ ≠ gb176 ∧ k_ ≠ gb187)) (Kd.R_types (Kd.R_types (HO_3.out) BK176.out (by decide)) BK187.out (by decide)) (fun k_ hk => ⟨hk.1.2, hk.2⟩))).2.1 (Kd.R_F (Kd.R_mono (ok' := (fun k_ => k_ ≠ gb176 ∧ k_ ≠ gb187)) (Kd.R_types (Kd.R_types (HO_3.out) BK176.out (by decide)) BK187.out (by decide)) (fun k_ hk => ⟨hk.1.2, hk.2⟩))))) (Reps.one (show Kd.FK (Kd.slice 5 (Kd.int .u8)) _ _ t188 [.slice Ao28 t188.length co28] from (Kd.FK_slice_mk (rr (Kd.R_mono (ok' := (fun k_ => k_ ≠ gb176 ∧ k_ ≠ gb187)) (Kd.R_types (Kd.R_types (HO190.out) BK176.out (by decide)) BK187.out (by decide)) (fun k_ hk => ⟨hk.1.2, hk.2⟩))).2.1 (Kd.R_F (Kd.R_mono (ok' := (fun k_ => k_ ≠ gb176 ∧ k_ ≠ gb187)) (Kd.R_types (Kd.R_types (HO190.out) BK176.out (by decide)) BK187.out (by decide)) (fun k_ hk => ⟨hk.1.2, hk.2⟩))))) (Reps.one (show Kd.FK (Kd.slice 5 (Kd.int .u8)) _ _ t191 [.slice Ao29 t191.length co29] from (Kd.FK_slice_mk (rr (Kd.R_mono (ok' := (fun k_ => k_ ≠ gb176 ∧ k_ ≠ gb187)) (Kd.R_types (Kd.R_types (HO193.out) BK176.out (by decide)) BK187.out (by decide)) (fun k_ hk => ⟨hk.1.2, hk.2⟩))).2.1 (Kd.R_F (Kd.R_mono (ok' := (fun k_ => k_ ≠ gb176 ∧ k_ ≠ gb187)) (Kd.R_types (Kd.R_types (HO193.out) BK176.out (by decide)) BK187.out (by decide)) (fun k_ hk => ⟨hk.1.2, hk.2⟩))))) (Reps.one (show Kd.FK (Kd.slice 5 (Kd.int .u8)) _ _ t194 [.slice Ao30 t194.length co30] from (Kd.FK_slice_mk (rr (Kd.R_mono (ok' := (fun k_ => k_ ≠ gb176 ∧ k_ ≠ gb187)) (Kd.R_types (Kd.R_types (HO196.out) BK176.out (by decide)) BK187.out (by decide)) (fun k_ hk => ⟨hk.1.2, hk.2⟩))).2.1 (Kd.R_F (Kd.R_mono (ok' := (fun k_ => k_ ≠ gb176 ∧ k_ ≠ gb187)) (Kd.R_types (Kd.R_types (HO196.out) BK176.out (by decide)) BK187.out (by decide)) (fun k_ hk => ⟨hk.1.2, hk.2⟩))))) (Reps.none _ _))))))
           intro v198 w31 ho32 hb hg_ hnew_
           clear hg_ hnew_
           (first | rw [← Ny197.out] at ho32 | (simp only [Int.reduceToNat] at ho32; rw [← Ny197.out] at ho32))
           have n_ := t4 (Kd.N_lower ho32 (bs_ pB)) (blk_below (g := gb176) (o := .cells #[.int .i64 a0_0, .slice (some ad186) l0_1.length c0_1, .slice A0_2 l0_2.length c0_2] 27 (0, 0)) (pK BK176) hb) (blk_below (g := gb187) (o := .cells #[.int .i64 ((rd_T34 l0_1 x19_1).f0), .int .i64 ((rd_T34 l0_1 x19_1).f1), .slice A186_2 ((rd_T34 l0_1 x19_1).f2).length c186_2] 34 (0, 0)) (pK BK187) hb) (bz_ pB hb)
           clear BK176 BK187 HB HO190 HO193 HO196 HO_3; obtain ⟨HO199, BK176, BK187, HB⟩ := n_; clear hb ho32
           obtain ⟨Ao33, co33, eo33⟩ := Kd.N_slice HO199.out
           (first | subst eo33 | (injection eo33 with f1_ f2_ f3_; have f4_ := f1_.symm; have f5_ := f3_.symm; clear f1_ f2_ f3_; subst f4_; subst f5_))
           refine hK.out _ _ ⟨(blk_cell BK187.out 0).trans rfl, (blk_cell BK187.out 1).trans rfl, (blk_cell BK187.out 2).trans rfl⟩ (fun hHeld => ?_)
           clear hK K
           refine rN ?_
           refine one_ (i := 11) (N := some 34) #[true, true, true, true, true, true, true, true, true, true, true, true, false] rfl rfl (one_of HT_.out (by kernel_rfl)) (by decide) (fun K hK => ?_)
           refine goes_ Try.func104 (by kernel_rfl) rfl #[.slice Ao33 y197.length co33] (by rfl) rfl rfl pA ?_
           with_reducible refine (slices_Concat_byte_byte.calls k1 _ _ y197 t200 _ ?side1 ?side2 A18.out).mono ?_
           (case side1 => exact pC (Kd.N_reads' HO199.out).2.2)
           (case side2 => exact (Kd.N_reads' HO199.out).2.1)
           rintro e w34 ⟨v201, rfl, ho0, hb⟩
           refine ⟨_, rfl, ?_⟩
           have n_ := t5 (Kd.N_elder' (by (with_reducible repeat (first | apply Kd.N_alloc | apply Kd.N_drewN | apply Kd.N_drew)); exact HO199.out) (rB ho0) hb) (rL ho0 (bs_ pB)) (blk_below (g := gb176) (o := .cells #[.int .i64 a0_0, .slice (some ad186) l0_1.length c0_1, .slice A0_2 l0_2.length c0_2] 27 (0, 0)) (pK BK176) hb) (blk_below (g := gb187) (o := .cells #[.int .i64 ((rd_T34 l0_1 x19_1).f0), .int .i64 ((rd_T34 l0_1 x19_1).f1), .slice A186_2 ((rd_T34 l0_1 x19_1).f2).length c186_2] 34 (0, 0)) (pK BK187) hb) (bz_ pB hb)
           clear HO199 BK176 BK187 HB; obtain ⟨HO199, HO202, BK176, BK187, HB⟩ := n_; (try clear hb); (try clear hb2); (try clear hk); (try clear hi); (try clear ho0)
           refine hK.out _ _ ⟨(blk_cell BK187.out 0).trans rfl, (blk_cell BK187.out 1).trans rfl, (blk_cell BK187.out 2).trans rfl⟩ (fun hHeld => ?_)
           clear hK K
           refine rN ?_
           refine rP 12 (some 3) #[true, true, true, true, true, true, true, true, true, true, true, true, true] (any_of HT_.out (by kernel_rfl)) ?_
           refine done_ (done_of HT_.out (by kernel_rfl)) ?_
           try go_wp2
           go_roundg k1
           case measure => have := HK1.out; omega
           case rel => exact ⟨(t200), (wrap64 (x19_1 + 1)), pF, H', ⟨by have := HK1.out; omega⟩, ⟨(pR HO202)⟩, ⟨(pK BK176)⟩, ⟨pB⟩⟩
         · rw [if_neg c14] at H
           exact absurd H (by simp)
       · rw [if_neg c13] at H
         exact absurd H (by simp)
     · rw [if_neg c12] at H
       have c12b0 : decide (x19_1 < (l0_1.length : Int)) = false := decide_eq_false c12
       clear c12
       obtain ⟨t203, A350, H⟩ := bO H
       replace H : (if x3_1.length + t203.length < 140737488355328 then (impl_packTx.l1 k1 (x3_1 ++ t203) l0_2 (l0_2.length : Int) 0) else (none)) = some r := H
       have A35 := am A350; clear A350
       by_cases c36 : x3_1.length + t203.length < 140737488355328
       · rw [if_pos c36] at H
         have LMc36 := am c36; clear c36
         obtain ⟨y206, hy206⟩ : ∃ y_ : List Int, y_ = (x3_1 ++ t203) := ⟨_, rfl⟩
         replace H : (impl_packTx.l1 k1 y206 l0_2 (l0_2.length : Int) 0) = some r := by first | (rw [hy206]; with_reducible exact H) | (have H2_ := (Option.bind_some _ _).symm.trans H; rw [hy206]; with_reducible exact H2_) | (have H2_ := (Option.bind_some _ _).symm.trans H; with_reducible exact H2_) | with_reducible exact H | (rw [hy206]; exact H) | exact H
         have Ny206 := am hy206; clear hy206
         have H' := am H
         clear H
         obtain ⟨hcz37_0, hcz37_1, hcz37_2, hfz37_0, hfz37_1, hfz37_2⟩ := bx3 BK176
         go_wp2_with (first | ((with_reducible refine gC (f := 79) rfl ?_); refine goesL_ (some 40) rfl rfl Try.func79 (by kernel_rfl) rfl #[.int .i64 (l0_2.length : Int)] rfl pA ?_; (with_reducible refine (impl_putVar.calls (l0_2.length : Int) t203 _ A35.out).mono ?_); rintro e w38 ⟨v204, rfl, ho0, hb⟩; refine ⟨_, rfl, ?_⟩; have n_ := t4 (rE (pR HO_3) (rB ho0) hb) (rL (rW ho0 (Kd.R_lt (pR HO_3))) (bs_ pB)) (blk_below (g := gb176) (o := .cells #[.int .i64 a0_0, .slice A0_1 l0_1.length c0_1, .slice A0_2 l0_2.length c0_2] 27 (0, 0)) (pK BK176) hb) (bz_ pB hb); clear HO_3 BK176 HB; obtain ⟨HO_3, HO205, BK176, HB⟩ := n_; (try clear hb); (try clear ho0); obtain ⟨Ao40, co40, eo40⟩ := rS HO205.out; subst eo40) | ((with_reducible refine gB (b := .append) (xs := #[.tmp 36, .tmp 40]) rfl ?_); at_builtin; refine Kd.R_append_rows (Kd.int .u8) (w0 := w) w.heap.size rfl (.tmp 36) (.tmp 40) 22 5 (.int .u8 0) 1 rfl Try.underlying22 info5 rfl (by decide) (by omega) u3 x3_1 t203 _ _ _ (fun k_ => some k_ ≠ (.slice Ao40 t203.length co40 : Value).ownBlock) (fun _ => False) rfl rfl ?aO ?aR (fun _ _ h => h) (fun _ h => h.elim) ?aF ?aB ?aS ?aL ?_; (case aR => exact pC (rr HO205.out).2.2); (case aB => exact pB); (case aF => exact (fun k_ hk => Kd.fresh' (Kd.R_lt (pR HO205)) k_ hk)); (case aO => exact (pT (Kd.R_mono HO_3.out (fun _ hk => hk.2)))); (case aS => exact (bs_ pB)); (case aL => have := LMc36.out; omega); intro v207 w39 ho hb hg hat; rw [← Ny206.out] at ho; have n_ := t4 (blk_grown (g := gb176) (o := .cells #[.int .i64 a0_0, .slice A0_1 l0_1.length c0_1, .slice A0_2 l0_2.length c0_2] 27 (0, 0)) (pK BK176) hg (Kd.R_ne HO_3.out BK176.out (by decide))) (Kd.R_after (ok := (fun _ => True)) (pR HO205) hg hat) (hb) (ho); clear BK176 HO205 HB HO_3; obtain ⟨BK176, HO205, HB, HO208⟩ := n_; clear ho hb hg hat; have hcz41_0 : w39.cell? ⟨gb176, 0, none⟩ = some (.int .i64 a0_0) := (blk_cell BK176.out 0).trans rfl; have hcz41_1 : w39.cell? ⟨gb176, 1, none⟩ = some (.slice A0_1 l0_1.length c0_1) := (blk_cell BK176.out 1).trans rfl; have hcz41_2 : w39.cell? ⟨gb176, 2, none⟩ = some (.slice A0_2 l0_2.length c0_2) := (blk_cell BK176.out 2).trans rfl; have hfz41_0 := blk_frozen BK176.out 0; have hfz41_1 := blk_frozen BK176.out 1; have hfz41_2 := blk_frozen BK176.out 2))
         go_loopg [3, 45] k1 (fun kq v3 v45 w' => ∃ (x3_2 : List Int) (x45_2 : Int), v45 = .int .i64 x45_2 ∧ Aside0 (impl_packTx.l1 kq x3_2 l0_2 (l0_2.length : Int) x45_2 = some r) ∧ Aside0 (kq ≤ k1) ∧ Aside0 (Kd.R (Kd.int .u8) 5 w' w.heap.size (fun _ => True) v3 x3_2) ∧ Aside0 (w'.heap[gb176]? = some (.cells #[.int .i64 a0_0, (.slice A0_1 l0_1.length c0_1), (.slice A0_2 l0_2.length c0_2)] 27 (0, 0))) ∧ Aside0 (Below w.heap.size w w'))
         case atStart => exact ⟨(y206), (0), pF, H', ⟨Nat.le_refl _⟩, ⟨(pT (Kd.R_mono HO208.out (fun _ hk => trivial)))⟩, ⟨(pK BK176)⟩, ⟨pB⟩⟩
         case round =>
          clear H'
          (try clear c4); (try clear c12); (try clear c12b0); (try clear c36); (try clear hcz11_0); (try clear hcz11_1); (try clear hcz11_2); (try clear hcz37_0); (try clear hcz37_1); (try clear hcz37_2); (try clear hcz41_0); (try clear hcz41_1); (try clear hcz41_2); (try clear hfz11_0); (try clear hfz11_1); (try clear hfz11_2); (try clear hfz37_0); (try clear hfz37_1); (try clear hfz37_2); (try clear hfz41_0); (try clear hfz41_1); (try clear hfz41_2)
          obtain ⟨x3_2, x45_2, rfl, HA, HK2, HO_3, BK176, HB⟩ := hrel
          cases gk with
          | zero => exact absurd HA.out (by simp [impl_packTx.l1])
          | succ k2 =>
           have H := HA.out
           clear HA
           simp only [impl_packTx.l1] at H
           by_cases c42 : x45_2 < (l0_2.length : Int)
           · rw [if_pos c42] at H
             have c42b0 : decide (x45_2 < (l0_2.length : Int)) = true := dt c42
             clear c42
             by_cases c43 : 0 ≤ x45_2
             · rw [if_pos c43] at H
               have c43b0 : decide (0 ≤ x45_2) = true := dt c43
               clear c43
               by_cases c44 : x45_2 < (l0_2.length : Int)
               · rw [if_pos c44] at H
                 have c44b0 : decide (x45_2 < (l0_2.length : Int)) = true := dt c44
                 clear c44
                 obtain ⟨t211, A450, H⟩ := bO H
                 replace H : ((impl_numbers.f k2 ((rd_T86 l0_2 x45_2).f1)).bind fun t214 => ((slices_Concat_byte_byte.f k2 (([x3_2, t211, t214] : List (List Int)))).bind fun t220 => (impl_packTx.l1 k2 t220 l0_2 (l0_2.length : Int) (wrap64 (x45_2 + 1))))) = some r := H
                 have A45 := am A450; clear A450
                 obtain ⟨t214, A460, H⟩ := bO H
                 replace H : ((slices_Concat_byte_byte.f k2 (([x3_2, t211, t214] : List (List Int)))).bind fun t220 => (impl_packTx.l1 k2 t220 l0_2 (l0_2.length : Int) (wrap64 (x45_2 + 1)))) = some r := H
                 have A46 := am A460; clear A460
                 obtain ⟨y217, hy217⟩ : ∃ y_ : List (List Int), y_ = (([x3_2, t211, t214] : List (List Int))) := ⟨_, rfl⟩
                 replace H : ((slices_Concat_byte_byte.f k2 y217).bind fun t220 => (impl_packTx.l1 k2 t220 l0_2 (l0_2.length : Int) (wrap64 (x45_2 + 1)))) = some r := by first | (rw [hy217]; with_reducible exact H) | (have H2_ := (Option.bind_some _ _).symm.trans H; rw [hy217]; with_reducible exact H2_) | (have H2_ := (Option.bind_some _ _).symm.trans H; with_reducible exact H2_) | with_reducible exact H | (rw [hy217]; exact H) | exact H
                 have Ny217 := am hy217; clear hy217
                 obtain ⟨t220, A470, H⟩ := bO H
                 replace H : (impl_packTx.l1 k2 t220 l0_2 (l0_2.length : Int) (wrap64 (x45_2 + 1))) = some r := H
                 have A47 := am A470; clear A470
                 have H' := am H
                 clear H
                 have p209 : 0 ≤ (x45_2 : Int) := pD
                 have q209 : x45_2 < (l0_2.length : Int) := pD
                 obtain ⟨ad209, A209_1, c209_1, e209, hx209_0, hx209_1, hl209_1, hi209_1⟩ := at_T86 HR0_2.out x45_2 p209 q209
                 cases e209; replace hx209_0 := cb HB hx209_0; replace hx209_1 := cb HB hx209_1; have HR209_1 := am hi209_1; have HC209_1 := am hl209_1; clear hi209_1 hl209_1; replace p209 := eq_true p209; replace q209 := eq_true q209
                 try go_wp2_with (first | ((with_reducible refine gate_dst (N := 7) rfl ?_); refine box_event ?hg (N := 7) ?hd (cs := #[.int .i64 0, .slice none 0 0]) (t := 86) ?hr ?_; (case hd => rfl); (case hg => rfl); (case hr => first | (go_simp; done) | (go_simp; rfl)); intro gb210 hg w48 hbox hb; have n_ := t8 (Kd.R_below (pR HO_3) hb) (blk_below (g := gb176) (o := .cells #[.int .i64 a0_0, .slice A0_1 l0_1.length c0_1, .slice (some ad209) l0_2.length c0_2] 27 (0, 0)) (pK BK176) hb) (bz_ pB hb) (hbox) ((by rw [hg]; exact (bs_ pB) : w.heap.size ≤ gb210)) ((by rw [hg]; exact (bs_ pB) : w.heap.size ≤ gb210)) ((by rw [hg]; exact Nat.ne_of_lt (blk_lt (g := gb176) (o := .cells #[.int .i64 a0_0, .slice A0_1 l0_1.length c0_1, .slice (some ad209) l0_2.length c0_2] 27 (0, 0)) (pK BK176)) : gb176 ≠ gb210)) ((by rw [hg]; exact Nat.ne_of_gt (blk_lt (g := gb176) (o := .cells #[.int .i64 a0_0, .slice A0_1 l0_1.length c0_1, .slice (some ad209) l0_2.length c0_2] 27 (0, 0)) (pK BK176)) : gb210 ≠ gb176)); clear HO_3 BK176 HB; obtain ⟨HO_3, BK176, HB, BK210, GW210, GE210, NB176_210, NB210_176⟩ := n_; clear hb hbox hg; have hnb49 := NB210_176.out; have hnc49 := NB176_210.out; have hcz50_0 : w48.cell? ⟨gb210, 0, none⟩ = some (.int .i64 0) := (blk_cell BK210.out 0).trans rfl; have hcz50_1 : w48.cell? ⟨gb210, 1, none⟩ = some (.slice none 0 0) := (blk_cell BK210.out 1).trans rfl; have hfz50_0 := blk_frozen BK210.out 0; have hfz50_1 := blk_frozen BK210.out 1))
                 have n0_ : Aside0 (Kd.R (Kd.int .u8) 5 ((w48.setCell ⟨gb210, 0, none⟩ (.int .i64 ((rd_T86 l0_2 x45_2).f0))).setCell ⟨gb210, 1, none⟩ (.slice A209_1 ((rd_T86 l0_2 x45_2).f1).length c209_1)) w.heap.size (fun _ => True) u3 x3_2) := ⟨(pT (Kd.R_mono (Kd.R_far (p := ⟨gb210, 1, none⟩) (Kd.R_far (p := ⟨gb210, 0, none⟩) (Kd.R_types HO_3.out BK210.out (by decide)) (fun _ hk => hk.2) (.int .i64 ((rd_T86 l0_2 x45_2).f0))) (fun _ hk => hk.2) (.slice A209_1 ((rd_T86 l0_2 x45_2).f1).length c209_1)) (fun _ hk => trivial)))⟩
                 have n1_ : Aside0 (((w48.setCell ⟨gb210, 0, none⟩ (.int .i64 ((rd_T86 l0_2 x45_2).f0))).setCell ⟨gb210, 1, none⟩ (.slice A209_1 ((rd_T86 l0_2 x45_2).f1).length c209_1)).heap[gb176]? = some (.cells #[.int .i64 a0_0, .slice A0_1 l0_1.length c0_1, .slice (some ad209) l0_2.length c0_2] 27 (0, 0))) := ⟨by (with_reducible repeat (first | refine blk_drewN ?_ _ | refine blk_drew ?_ | refine blk_alloc ?_ _)); refine blk_far ?_ NB176_210.out _; (with_reducible repeat (first | refine blk_drewN ?_ _ | refine blk_drew ?_ | refine blk_alloc ?_ _)); refine blk_far ?_ NB176_210.out _; (with_reducible repeat (first | refine blk_drewN ?_ _ | refine blk_drew ?_ | refine blk_alloc ?_ _)); exact BK176.out⟩
                 have n2_ : Aside0 (((w48.setCell ⟨gb210, 0, none⟩ (.int .i64 ((rd_T86 l0_2 x45_2).f0))).setCell ⟨gb210, 1, none⟩ (.slice A209_1 ((rd_T86 l0_2 x45_2).f1).length c209_1)).heap[gb210]? = some (.cells #[.int .i64 ((rd_T86 l0_2 x45_2).f0), .slice A209_1 ((rd_T86 l0_2 x45_2).f1).length c209_1] 86 (0, 0))) := ⟨by (with_reducible repeat (first | refine blk_drewN ?_ _ | refine blk_drew ?_ | refine blk_alloc ?_ _)); refine blk_put (cs := #[.int .i64 ((rd_T86 l0_2 x45_2).f0), .slice none 0 0]) ?_ 1 _ rfl; (with_reducible repeat (first | refine blk_drewN ?_ _ | refine blk_drew ?_ | refine blk_alloc ?_ _)); refine blk_put (cs := #[.int .i64 0, .slice none 0 0]) ?_ 0 _ rfl; (with_reducible repeat (first | refine blk_drewN ?_ _ | refine blk_drew ?_ | refine blk_alloc ?_ _)); exact BK210.out⟩
                 have n3_ : Aside0 (Below w.heap.size w ((w48.setCell ⟨gb210, 0, none⟩ (.int .i64 ((rd_T86 l0_2 x45_2).f0))).setCell ⟨gb210, 1, none⟩ (.slice A209_1 ((rd_T86 l0_2 x45_2).f1).length c209_1))) := ⟨pB⟩
                 (try clear HO_3); (try clear BK176); (try clear BK210); (try clear HB)
                 generalize ((w48.setCell ⟨gb210, 0, none⟩ (.int .i64 ((rd_T86 l0_2 x45_2).f0))).setCell ⟨gb210, 1, none⟩ (.slice A209_1 ((rd_T86 l0_2 x45_2).f1).length c209_1)) = w51 at n0_ n1_ n2_ n3_ ⊢
                 have HO_3 := n0_
                 have BK176 := n1_
                 have BK210 := n2_
                 have HB := n3_
                 clear n0_ n1_ n2_ n3_
                 have n_ := t4 (Kd.R_drew HO_3.out) (blk_drew BK176.out) (blk_drew BK210.out) (below_drew1 HB.out)
                 clear HO_3 BK176 BK210 HB; obtain ⟨HO_3, BK176, BK210, HB⟩ := n_
                 refine start_ (n := 10) (S := fun w' => w'.cell? ⟨gb210, 0, none⟩ = some (.int .i64 ((rd_T86 l0_2 x45_2).f0)) ∧ w'.cell? ⟨gb210, 1, none⟩ = some (.slice A209_1 ((rd_T86 l0_2 x45_2).f1).length c209_1)) (ds := []) #[false, false, false, false, false, false, false, false, false, false] (by kernel_rfl) rfl rfl ⟨(blk_cell BK210.out 0).trans rfl, (blk_cell BK210.out 1).trans rfl⟩ (fun hHeld => ?_); refine with_tabW impl_packTx.tab11 impl_packTx.bits11 (fun HT_ HW_ => ?_)
                 generalize w51.drew = w52 at HO_3 BK176 BK210 HB hHeld ⊢
                 refine rP 0 (some 49) #[true, false, false, false, false, false, false, false, false, false] (any_of HT_.out (by kernel_rfl)) ?_
                 refine rP 1 (some 50) #[true, true, false, false, false, false, false, false, false, false] (any_of HT_.out (by kernel_rfl)) ?_
                 refine rP 4 (some 53) #[true, true, false, false, true, false, false, false, false, false] (any_of HT_.out (by kernel_rfl)) ?_
                 refine rT 2 (some 51) #[true, true, true, false, true, false, false, false, false, false] (take_ofW HT_.out HW_.out (by kernel_rfl)) hHeld ?_
                 refine rT 5 (some 54) #[true, true, true, false, true, true, false, false, false, false] (take_ofW HT_.out HW_.out (by kernel_rfl)) hHeld ?_
                 refine one_ (i := 3) (N := some 52) #[true, true, true, true, true, true, false, false, false, false] rfl rfl (one_of HT_.out (by kernel_rfl)) (by decide) (fun K hK => ?_)
                 refine goes_ Try.func105 (by kernel_rfl) rfl #[.int .i64 ((rd_T86 l0_2 x45_2).f0)] (by rfl) rfl rfl pA ?_
                 with_reducible refine (impl_halves.calls ((rd_T86 l0_2 x45_2).f0) t211 _ A45.out).mono ?_
                 rintro e w53 ⟨v212, rfl, ho0, hb⟩
                 refine ⟨_, rfl, ?_⟩
                 have n_ := t5 (rE (pR HO_3) (rB ho0) hb) (rL (rW ho0 (Kd.R_lt (pR HO_3))) (bs_ pB)) (blk_below (g := gb176) (o := .cells #[.int .i64 a0_0, .slice A0_1 l0_1.length c0_1, .slice (some ad209) l0_2.length c0_2] 27 (0, 0)) (pK BK176) hb) (blk_below (g := gb210) (o := .cells #[.int .i64 ((rd_T86 l0_2 x45_2).f0), .slice A209_1 ((rd_T86 l0_2 x45_2).f1).length c209_1] 86 (0, 0)) (pK BK210) hb) (bz_ pB hb)
                 clear HO_3 BK176 BK210 HB; obtain ⟨HO_3, HO213, BK176, BK210, HB⟩ := n_; (try clear hb); (try clear hb2); (try clear hk); (try clear hi); (try clear ho0)
                 refine hK.out _ _ ⟨(blk_cell BK210.out 0).trans rfl, (blk_cell BK210.out 1).trans rfl⟩ (fun hHeld => ?_)
                 clear hK K
                 refine rN ?_
                 refine one_ (i := 6) (N := some 55) #[true, true, true, true, true, true, true, false, false, false] rfl rfl (one_of HT_.out (by kernel_rfl)) (by decide) (fun K hK => ?_)
                 refine goes_ Try.func106 (by kernel_rfl) rfl #[.slice A209_1 ((rd_T86 l0_2 x45_2).f1).length c209_1] (by rfl) rfl rfl pA ?_
                 with_reducible refine (impl_numbers.calls k2 _ _ ((rd_T86 l0_2 x45_2).f1) t214 _ ?side1 ?side2 A46.out).mono ?_
                 (case side1 => exact pC (Kd.C_below HR209_1.out HB.out))
                 (case side2 => exact HC209_1.out)
                 rintro e w54 ⟨v215, rfl, ho0, hb⟩
                 refine ⟨_, rfl, ?_⟩
                 have n_ := t6 (rE (pR HO_3) (rB ho0) hb) (rE (pR HO213) (rB ho0) hb) (rL (rW (rW ho0 (Kd.R_lt (pR HO_3))) (Kd.R_lt (pR HO213))) (bs_ pB)) (blk_below (g := gb176) (o := .cells #[.int .i64 a0_0, .slice A0_1 l0_1.length c0_1, .slice (some ad209) l0_2.length c0_2] 27 (0, 0)) (pK BK176) hb) (blk_below (g := gb210) (o := .cells #[.int .i64 ((rd_T86 l0_2 x45_2).f0), .slice A209_1 ((rd_T86 l0_2 x45_2).f1).length c209_1] 86 (0, 0)) (pK BK210) hb) (bz_ pB hb)
                 clear HO_3 HO213 BK176 BK210 HB; obtain ⟨HO_3, HO213, HO216, BK176, BK210, HB⟩ := n_; (try clear hb); (try clear hb2); (try clear hk); (try clear hi); (try clear ho0)
                 obtain ⟨Ao55, co55, eo55⟩ := rS HO_3.out
                 (first | subst eo55 | (injection eo55 with f1_ f2_ f3_; have f4_ := f1_.symm; have f5_ := f3_.symm; clear f1_ f2_ f3_; subst f4_; subst f5_))
                 obtain ⟨Ao56, co56, eo56⟩ := rS HO213.out
                 (first | subst eo56 | (injection eo56 with f1_ f2_ f3_; have f4_ := f1_.symm; have f5_ := f3_.symm; clear f1_ f2_ f3_; subst f4_; subst f5_))
                 obtain ⟨Ao57, co57, eo57⟩ := rS HO216.out
                 (first | subst eo57 | (injection eo57 with f1_ f2_ f3_; have f4_ := f1_.symm; have f5_ := f3_.symm; clear f1_ f2_ f3_; subst f4_; subst f5_))
                 refine hK.out _ _ ⟨(blk_cell BK210.out 0).trans rfl, (blk_cell BK210.out 1).trans rfl⟩ (fun hHeld => ?_)
                 clear hK K
                 refine rN ?_
                 refine one_ (i := 7) (N := some 56) #[true, true, true, true, true, true, true, true, false, false] rfl rfl (one_of HT_.out (by kernel_rfl)) (by decide) (fun K hK => ?_)
                 refine Kd.N_lit_step (Kd.slice 5 (Kd.int .u8)) _ 22 ?hg (N' := 56) ?hd (xs := ([x3_2, t211, t214] : List (List Int))) (inner := [.slice Ao55 x3_2.length co55, .slice Ao56 t211.length co56, .slice Ao57 t214.length co57]) (ok := (fun k_ => k_ ≠ gb176 ∧ k_ ≠ gb210)) (okp := (fun k_ => k_ ≠ gb176 ∧ k_ ≠ gb210)) ?hr ?hp (fun _ hk => hk) ((show ∀ k_, w54.heap.size ≤ k_ → (fun k_ => k_ ≠ gb176 ∧ k_ ≠ gb210) k_ from fun k_ hk => ⟨Kd.freshB (g := gb176) (o := .cells #[.int .i64 a0_0, .slice A0_1 l0_1.length c0_1, .slice (some ad209) l0_2.length c0_2] 27 (0, 0)) (pK BK176) k_ hk, Kd.freshB (g := gb210) (o := .cells #[.int .i64 ((rd_T86 l0_2 x45_2).f0), .slice A209_1 ((rd_T86 l0_2 x45_2).f1).length c209_1] 86 (0, 0)) (pK BK210) k_ hk⟩) _ (Nat.le_refl _)) (Below.refl _ _) (Nat.le_refl _) (by simp) ?_; (case hd => rfl); (case hg => rfl); (case hr => first | (go_simp; done) | (go_simp; rfl)); (case hp => exact (Reps.one (show Kd.FK (Kd.slice 5 (Kd.int .u8)) _ _ x3_2 [.slice Ao55 x3_2.length co55] from (Kd.FK_slice_mk (rr (Kd.R_mono (ok' := (fun k_ => k_ ≠ gb176 ∧ k_ ≠ gb210)) (Kd.R_types (Kd.R_types (HO_3.out) BK176.out (by decide)) BK210.out (by decide)) (fun k_ hk => ⟨hk.1.2, hk.2⟩))).2.1 (Kd.R_F (Kd.R_mono (ok' := (fun k_ => k_ ≠ gb176 ∧ k_ ≠ gb210)) (Kd.R_types (Kd.R_types (HO_3.out) BK176.out (by decide)) BK210.out (by decide)) (fun k_ hk => ⟨hk.1.2, hk.2⟩))))) (Reps.one (show Kd.FK (Kd.slice 5 (Kd.int .u8)) _ _ t211 [.slice Ao56 t211.length co56] from (Kd.FK_slice_mk (rr (Kd.R_mono (ok' := (fun k_ => k_ ≠ gb176 ∧ k_ ≠ gb210)) (Kd.R_types (Kd.R_types (HO213.out) BK176.out (by decide)) BK210.out (by decide)) (fun k_ hk => ⟨hk.1.2, hk.2⟩))).2.1 (Kd.R_F (Kd.R_mono (ok' := (fun k_ => k_ ≠ gb176 ∧ k_ ≠ gb210)) (Kd.R_types (Kd.R_types (HO213.out) BK176.out (by decide)) BK210.out (by decide)) (fun k_ hk => ⟨hk.1.2, hk.2⟩))))) (Reps.one (show Kd.FK (Kd.slice 5 (Kd.int .u8)) _ _ t214 [.slice Ao57 t214.length co57] from (Kd.FK_slice_mk (rr (Kd.R_mono (ok' := (fun k_ => k_ ≠ gb176 ∧ k_ ≠ gb210)) (Kd.R_types (Kd.R_types (HO216.out) BK176.out (by decide)) BK210.out (by decide)) (fun k_ hk => ⟨hk.1.2, hk.2⟩))).2.1 (Kd.R_F (Kd.R_mono (ok' := (fun k_ => k_ ≠ gb176 ∧ k_ ≠ gb210)) (Kd.R_types (Kd.R_types (HO216.out) BK176.out (by decide)) BK210.out (by decide)) (fun k_ hk => ⟨hk.1.2, hk.2⟩))))) (Reps.none _ _)))))
                 intro v218 w58 ho59 hb hg_ hnew_
                 clear hg_ hnew_
                 (first | rw [← Ny217.out] at ho59 | (simp only [Int.reduceToNat] at ho59; rw [← Ny217.out] at ho59))
                 have n_ := t4 (Kd.N_lower ho59 (bs_ pB)) (blk_below (g := gb176) (o := .cells #[.int .i64 a0_0, .slice A0_1 l0_1.length c0_1, .slice (some ad209) l0_2.length c0_2] 27 (0, 0)) (pK BK176) hb) (blk_below (g := gb210) (o := .cells #[.int .i64 ((rd_T86 l0_2 x45_2).f0), .slice A209_1 ((rd_T86 l0_2 x45_2).f1).length c209_1] 86 (0, 0)) (pK BK210) hb) (bz_ pB hb)
                 clear BK176 BK210 HB HO213 HO216 HO_3; obtain ⟨HO219, BK176, BK210, HB⟩ := n_; clear hb ho59
                 obtain ⟨Ao60, co60, eo60⟩ := Kd.N_slice HO219.out
                 (first | subst eo60 | (injection eo60 with f1_ f2_ f3_; have f4_ := f1_.symm; have f5_ := f3_.symm; clear f1_ f2_ f3_; subst f4_; subst f5_))
                 refine hK.out _ _ ⟨(blk_cell BK210.out 0).trans rfl, (blk_cell BK210.out 1).trans rfl⟩ (fun hHeld => ?_)
                 clear hK K
                 refine rN ?_
                 refine one_ (i := 8) (N := some 57) #[true, true, true, true, true, true, true, true, true, false] rfl rfl (one_of HT_.out (by kernel_rfl)) (by decide) (fun K hK => ?_)
                 refine goes_ Try.func104 (by kernel_rfl) rfl #[.slice Ao60 y217.length co60] (by rfl) rfl rfl pA ?_
                 with_reducible refine (slices_Concat_byte_byte.calls k2 _ _ y217 t220 _ ?side1 ?side2 A47.out).mono ?_
                 (case side1 => exact pC (Kd.N_reads' HO219.out).2.2)
                 (case side2 => exact (Kd.N_reads' HO219.out).2.1)
                 rintro e w61 ⟨v221, rfl, ho0, hb⟩
                 refine ⟨_, rfl, ?_⟩
                 have n_ := t5 (Kd.N_elder' (by (with_reducible repeat (first | apply Kd.N_alloc | apply Kd.N_drewN | apply Kd.N_drew)); exact HO219.out) (rB ho0) hb) (rL ho0 (bs_ pB)) (blk_below (g := gb176) (o := .cells #[.int .i64 a0_0, .slice A0_1 l0_1.length c0_1, .slice (some ad209) l0_2.length c0_2] 27 (0, 0)) (pK BK176) hb) (blk_below (g := gb210) (o := .cells #[.int .i64 ((rd_T86 l0_2 x45_2).f0), .slice A209_1 ((rd_T86 l0_2 x45_2).f1).length c209_1] 86 (0, 0)) (pK BK210) hb) (bz_ pB hb)
                 clear HO219 BK176 BK210 HB; obtain ⟨HO219, HO222, BK176, BK210, HB⟩ := n_; (try clear hb); (try clear hb2); (try clear hk); (try clear hi); (try clear ho0)
                 refine hK.out _ _ ⟨(blk_cell BK210.out 0).trans rfl, (blk_cell BK210.out 1).trans rfl⟩ (fun hHeld => ?_)
                 clear hK K
                 refine rN ?_
                 refine rP 9 (some 3) #[true, true, true, true, true, true, true, true, true, true] (any_of HT_.out (by kernel_rfl)) ?_
                 refine done_ (done_of HT_.out (by kernel_rfl)) ?_
                 try go_wp2
                 go_roundg k2
                 case measure => have := HK1.out; have := HK2.out; omega
                 case rel => exact ⟨(t220), (wrap64 (x45_2 + 1)), pF, H', ⟨by have := HK1.out; have := HK2.out; omega⟩, ⟨(pR HO222)⟩, ⟨(pK BK176)⟩, ⟨pB⟩⟩
               · rw [if_neg c44] at H
                 exact absurd H (by simp)
             · rw [if_neg c43] at H
               exact absurd H (by simp)
           · rw [if_neg c42] at H
             have c42b0 : decide (x45_2 < (l0_2.length : Int)) = false := decide_eq_false c42
             clear c42
             obtain rfl := sj H
             go_wp2
             go_ret
             exact ⟨_, pE, (pR HO_3), pB⟩
       · rw [if_neg c36] at H
         exact absurd H (by simp)
 · rw [if_neg c4] at H
   exact absurd H (by simp)
end Go.Proofs.Ythjlbpgiaehjnaa.QFnExactPackTx
