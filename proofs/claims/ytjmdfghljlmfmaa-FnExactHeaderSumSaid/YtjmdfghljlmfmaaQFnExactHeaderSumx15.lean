-- written by this session's program (wip/tools/myprint.py)
import Derived.Test.YtjmdfghljlmfmaaQFnExactHeaderSumx0
import Derived.Test.YtjmdfghljlmfmaaQFnExactHeaderSumx14
-- squeezed
namespace Go.Proofs.Ytjmdfghljlmfmaa.QFnExactHeaderSum
open Go.RowKit Go.Proofs.YtjmdfghljlmfmaaW.PrintWords Go.Proofs.YtjmdfghljlmfmaaW.PrintLast Go.Proofs.YtjmdfghljlmfmaaW.PrintMore
attribute [local go_sem] max2_int min2_int max_two min_two max_three min_three max_four min_four   -- for this text's walks alone
set_option linter.unusedVariables false
set_option linter.unusedSimpArgs false
set_option maxHeartbeats 8000000
set_option maxRecDepth 100000
mutual
def impl_packTx.l0 : Nat → List Int → List (S77) → Int → Int → Int → List (S77) → List (S80) → Option (List Int)
 | 0, _, _, _, _, _, _, _ => none
 | k + 1, x3, x17, x18, x19, x509000, x509001, x509002 => if x19 < x18 then (if 0 ≤ x19 then (if x19 < (x17.length : Int) then ((impl_halves.f ((rd_T77 x17 x19).f0)).bind fun t520 => ((impl_putVar.f ((rd_T77 x17 x19).f1)).bind fun t523 => ((impl_numbers.f k ((rd_T77 x17 x19).f2)).bind fun t526 => ((slices_Concat_byte_byte.f k (([x3, t520, t523, t526] : List (List Int)))).bind fun t532 => (impl_packTx.l0 k t532 x17 x18 (wrap64 (x19 + 1)) x509000 x509001 x509002))))) else (none)) else (none)) else ((impl_putVar.f (x509002.length : Int)).bind fun t535 => (if x3.length + t535.length < 140737488355328 then (impl_packTx.l1 k (x3 ++ t535) x509002 (x509002.length : Int) 0) else (none)))
def impl_packTx.l1 : Nat → List Int → List (S80) → Int → Int → Option (List Int)
 | 0, _, _, _, _ => none
 | k + 1, x3, x43, x44, x45 => if x45 < x44 then (if 0 ≤ x45 then (if x45 < (x43.length : Int) then ((impl_halves.f ((rd_T80 x43 x45).f0)).bind fun t543 => ((impl_numbers.f k ((rd_T80 x43 x45).f1)).bind fun t546 => ((slices_Concat_byte_byte.f k (([x3, t543, t546] : List (List Int)))).bind fun t552 => (impl_packTx.l1 k t552 x43 x44 (wrap64 (x45 + 1)))))) else (none)) else (none)) else (some x3)
end
def impl_packTx.f (k : Nat) (a0_0 : Int) (l0_1 : List (S77)) (l0_2 : List (S80)) : Option (List Int) := (impl_putVar.f a0_0).bind fun t509 => ((impl_putVar.f (l0_1.length : Int)).bind fun t512 => (if t509.length + t512.length < 140737488355328 then (impl_packTx.l0 k (t509 ++ t512) l0_1 (l0_1.length : Int) 0 a0_0 l0_1 l0_2) else (none)))
theorem impl_packTx.mono_l : ∀ k, (∀ y0 y1 y2 y3 y4 y5 y6, LeO (impl_packTx.l0 k y0 y1 y2 y3 y4 y5 y6) (impl_packTx.l0 (k + 1) y0 y1 y2 y3 y4 y5 y6)) ∧ (∀ y0 y1 y2 y3, LeO (impl_packTx.l1 k y0 y1 y2 y3) (impl_packTx.l1 (k + 1) y0 y1 y2 y3))
 | 0 => ⟨fun _ _ _ _ _ _ _ r h => by simp [impl_packTx.l0] at h, fun _ _ _ _ r h => by simp [impl_packTx.l1] at h⟩
 | k + 1 => by
  obtain ⟨ih0, ih1⟩ := impl_packTx.mono_l k
  refine ⟨?_, ?_⟩
  · intro y0 y1 y2 y3 y4 y5 y6
    unfold impl_packTx.l0
    repeat' with_reducible first | exact ih0 _ _ _ _ _ _ _ | exact ih1 _ _ _ _ | exact impl_numbers.mono _ _ | exact slices_Concat_byte_byte.mono _ _ | exact LeO.refl _ | exact LeO.none _ | refine LeO.ite ?_ ?_ | refine LeO.bind ?_ (fun _ => ?_)
  · intro y0 y1 y2 y3
    unfold impl_packTx.l1
    repeat' with_reducible first | exact ih0 _ _ _ _ _ _ _ | exact ih1 _ _ _ _ | exact impl_numbers.mono _ _ | exact slices_Concat_byte_byte.mono _ _ | exact LeO.refl _ | exact LeO.none _ | refine LeO.ite ?_ ?_ | refine LeO.bind ?_ (fun _ => ?_)
theorem impl_packTx.mono : ∀ a0 a1 a2 k, LeO (impl_packTx.f k a0 a1 a2) (impl_packTx.f (k + 1) a0 a1 a2) := by
 intro a0 a1 a2 k
 obtain ⟨ih0, ih1⟩ := impl_packTx.mono_l k
 unfold impl_packTx.f
 repeat' with_reducible first | exact ih0 _ _ _ _ _ _ _ | exact ih1 _ _ _ _ | exact impl_numbers.mono _ _ | exact slices_Concat_byte_byte.mono _ _ | exact LeO.refl _ | exact LeO.none _ | refine LeO.ite ?_ ?_ | refine LeO.bind ?_ (fun _ => ?_)
def impl_packTx.T1 : Bool × List (List Nat × List Nat) := (true, [([], []), ([0], [0]), ([1], [1]), ([], []), ([3], [3]), ([4], [4]), ([5, 2], [5]), ([2, 6, 6], [2, 6]), ([7, 7, 0, 1, 2, 3, 4, 5, 6, 7], [7])])
def impl_packTx.B1 : List Nat := [0, 1, 3, 0, 8, 24, 63, 127, 255]
theorem impl_packTx.tab1 : rtab .any (opsOf Try.f76 1) = impl_packTx.T1 := by kernel_rfl
theorem impl_packTx.bits1 : waitsOk impl_packTx.T1.2 impl_packTx.B1 = true := by kernel_rfl
def impl_packTx.T5 : Bool × List (List Nat × List Nat) := (true, [([], []), ([], []), ([1], [1]), ([2], [2]), ([], []), ([4], [4]), ([5, 3], [5]), ([], []), ([7], [7]), ([8, 6], [8]), ([0, 3, 6, 9], [0, 3, 6, 9]), ([10, 9], [10]), ([11, 11, 0, 1, 2, 3, 4, 5, 6, 7, 8, 9, 10, 11], [0, 11])])
def impl_packTx.B5 : List Nat := [0, 0, 2, 6, 0, 16, 62, 0, 128, 510, 1023, 2047, 4095]
theorem impl_packTx.tab5 : rtab .any (opsOf Try.f76 5) = impl_packTx.T5 := by kernel_rfl
theorem impl_packTx.bits5 : waitsOk impl_packTx.T5.2 impl_packTx.B5 = true := by kernel_rfl
def impl_packTx.T11 : Bool × List (List Nat × List Nat) := (true, [([], []), ([], []), ([1], [1]), ([2], [2]), ([], []), ([4], [4]), ([5, 3], [5]), ([0, 3, 6], [0, 3, 6]), ([7, 6], [7]), ([8, 8, 0, 1, 2, 3, 4, 5, 6, 7, 8], [0, 8])])
def impl_packTx.B11 : List Nat := [0, 0, 2, 6, 0, 16, 62, 127, 255, 511]
theorem impl_packTx.tab11 : rtab .any (opsOf Try.f76 11) = impl_packTx.T11 := by kernel_rfl
theorem impl_packTx.bits11 : waitsOk impl_packTx.T11.2 impl_packTx.B11 = true := by kernel_rfl
theorem impl_packTx.calls (k : Nat) (a0_0 : Int) (A0_1 : Option Addr) (c0_1 : Nat) (l0_1 : List (S77)) (A0_2 : Option Addr) (c0_2 : Nat) (l0_2 : List (S80)) (r : List Int) (w : World) (hr0_1 : Kd.C k77 w A0_1 l0_1.length l0_1) (hc0_1 : l0_1.length ≤ c0_1) (hr0_2 : Kd.C k80 w A0_2 l0_2.length l0_2) (hc0_2 : l0_2.length ≤ c0_2) (h : impl_packTx.f k a0_0 l0_1 l0_2 = some r) :
 Calls Try.prog 76 #[.agg #[.int .i64 a0_0, .slice A0_1 l0_1.length c0_1, .slice A0_2 l0_2.length c0_2]] w fun e w' => ∃ v0_ : Value, e = .returned (v0_) ∧ Kd.R (Kd.int .u8) 5 w' w.heap.size (fun _ => True) v0_ r ∧ Below w.heap.size w w' := by
 have hu54 := Try.underlying54
 have hu77 := Try.underlying77
 have hu80 := Try.underlying80
 have HR0_1 := am hr0_1; have HC0_1 := am hc0_1; clear hr0_1 hc0_1; have HR0_2 := am hr0_2; have HC0_2 := am hc0_2; clear hr0_2 hc0_2
 have HB := am (Below.refl w.heap.size w)
 have H : ((impl_putVar.f a0_0).bind fun t509 => ((impl_putVar.f (l0_1.length : Int)).bind fun t512 => (if t509.length + t512.length < 140737488355328 then (impl_packTx.l0 k (t509 ++ t512) l0_1 (l0_1.length : Int) 0 a0_0 l0_1 l0_2) else (none)))) = some r := h
 clear h
 obtain ⟨t509, A20, H⟩ := bO H
 replace H : ((impl_putVar.f (l0_1.length : Int)).bind fun t512 => (if t509.length + t512.length < 140737488355328 then (impl_packTx.l0 k (t509 ++ t512) l0_1 (l0_1.length : Int) 0 a0_0 l0_1 l0_2) else (none))) = some r := H
 have A2 := am A20; clear A20
 obtain ⟨t512, A30, H⟩ := bO H
 replace H : (if t509.length + t512.length < 140737488355328 then (impl_packTx.l0 k (t509 ++ t512) l0_1 (l0_1.length : Int) 0 a0_0 l0_1 l0_2) else (none)) = some r := H
 have A3 := am A30; clear A30
 by_cases c4 : t509.length + t512.length < 140737488355328
 · rw [if_pos c4] at H
   have LMc4 := am c4; clear c4
   obtain ⟨y515, hy515⟩ : ∃ y_ : List Int, y_ = (t509 ++ t512) := ⟨_, rfl⟩
   replace H : (impl_packTx.l0 k y515 l0_1 (l0_1.length : Int) 0 a0_0 l0_1 l0_2) = some r := by first | (rw [hy515]; with_reducible exact H) | (have H2_ := (Option.bind_some _ _).symm.trans H; rw [hy515]; with_reducible exact H2_) | (have H2_ := (Option.bind_some _ _).symm.trans H; with_reducible exact H2_) | with_reducible exact H | (rw [hy515]; exact H) | exact H
   have Ny515 := am hy515; clear hy515
   have H' := am H
   clear H
   go_enter Try.func76, Try.ntmps76
   try go_wp2_with (first | ((with_reducible refine gate_dst (N := 1) rfl ?_); refine box_event ?hg (N := 1) ?hd (cs := #[.int .i64 a0_0, .slice A0_1 l0_1.length c0_1, .slice A0_2 l0_2.length c0_2]) (t := 54) ?hr ?_; (case hd => rfl); (case hg => rfl); (case hr => first | (go_simp; done) | (go_simp; rfl)); intro gb508 hg w5 hbox hb; have n_ := t4 (bz_ pB hb) (hbox) ((by rw [hg]; exact (bs_ pB) : w.heap.size ≤ gb508)) ((by rw [hg]; exact (bs_ pB) : w.heap.size ≤ gb508)); clear HB; obtain ⟨HB, BK508, GW508, GE508⟩ := n_; clear hb hbox hg))
   have n_ := t2 (blk_drew BK508.out) (below_drew1 HB.out)
   clear BK508 HB; obtain ⟨BK508, HB⟩ := n_
   refine start_ (n := 9) (S := fun w' => w'.cell? ⟨gb508, 0, none⟩ = some (.int .i64 a0_0) ∧ w'.cell? ⟨gb508, 1, none⟩ = some (.slice A0_1 l0_1.length c0_1) ∧ w'.cell? ⟨gb508, 2, none⟩ = some (.slice A0_2 l0_2.length c0_2)) (ds := []) #[false, false, false, false, false, false, false, false, false] (by kernel_rfl) rfl rfl ⟨(blk_cell BK508.out 0).trans rfl, (blk_cell BK508.out 1).trans rfl, (blk_cell BK508.out 2).trans rfl⟩ (fun hHeld => ?_); refine with_tabW impl_packTx.tab1 impl_packTx.bits1 (fun HT_ HW_ => ?_)
   generalize w5.drew = w6 at BK508 HB hHeld ⊢
   refine rP 0 (some 8) #[true, false, false, false, false, false, false, false, false] (any_of HT_.out (by kernel_rfl)) ?_
   refine rP 3 (some 11) #[true, false, false, true, false, false, false, false, false] (any_of HT_.out (by kernel_rfl)) ?_
   refine rT 1 (some 9) #[true, true, false, true, false, false, false, false, false] (take_ofW HT_.out HW_.out (by kernel_rfl)) hHeld ?_
   refine rT 4 (some 12) #[true, true, false, true, true, false, false, false, false] (take_ofW HT_.out HW_.out (by kernel_rfl)) hHeld ?_
   refine rP 5 (some 13) #[true, true, false, true, true, true, false, false, false] (any_of HT_.out (by kernel_rfl)) ?_
   refine one_ (i := 2) (N := some 10) #[true, true, true, true, true, true, false, false, false] rfl rfl (one_of HT_.out (by kernel_rfl)) (by decide) (fun K hK => ?_)
   refine goes_ Try.func88 (by kernel_rfl) rfl #[.int .i64 a0_0] (by rfl) rfl rfl pA ?_
   with_reducible refine (impl_putVar.calls a0_0 t509 _ A2.out).mono ?_
   rintro e w7 ⟨v510, rfl, ho0, hb⟩
   refine ⟨_, rfl, ?_⟩
   have n_ := t3 (rL ho0 (bs_ pB)) (blk_below (g := gb508) (o := .cells #[.int .i64 a0_0, .slice A0_1 l0_1.length c0_1, .slice A0_2 l0_2.length c0_2] 54 (0, 0)) (pK BK508) hb) (bz_ pB hb)
   clear BK508 HB; obtain ⟨HO511, BK508, HB⟩ := n_; (try clear hb); (try clear hb2); (try clear hk); (try clear hi); (try clear ho0)
   refine hK.out _ _ ⟨(blk_cell BK508.out 0).trans rfl, (blk_cell BK508.out 1).trans rfl, (blk_cell BK508.out 2).trans rfl⟩ (fun hHeld => ?_)
   clear hK K
   refine rN ?_
   refine one_ (i := 6) (N := some 14) #[true, true, true, true, true, true, true, false, false] rfl rfl (one_of HT_.out (by kernel_rfl)) (by decide) (fun K hK => ?_)
   refine goes_ Try.func88 (by kernel_rfl) rfl #[.int .i64 (l0_1.length : Int)] (by rfl) rfl rfl pA ?_
   with_reducible refine (impl_putVar.calls (l0_1.length : Int) t512 _ A3.out).mono ?_
   rintro e w8 ⟨v513, rfl, ho0, hb⟩
   refine ⟨_, rfl, ?_⟩
   have n_ := t4 (rE (pR HO511) (rB ho0) hb) (rL (rW ho0 (Kd.R_lt (pR HO511))) (bs_ pB)) (blk_below (g := gb508) (o := .cells #[.int .i64 a0_0, .slice A0_1 l0_1.length c0_1, .slice A0_2 l0_2.length c0_2] 54 (0, 0)) (pK BK508) hb) (bz_ pB hb)
   clear HO511 BK508 HB; obtain ⟨HO511, HO514, BK508, HB⟩ := n_; (try clear hb); (try clear hb2); (try clear hk); (try clear hi); (try clear ho0)
   obtain ⟨Ao10, co10, eo10⟩ := rS HO514.out
   (first | subst eo10 | (injection eo10 with f1_ f2_ f3_; have f4_ := f1_.symm; have f5_ := f3_.symm; clear f1_ f2_ f3_; subst f4_; subst f5_))
   refine hK.out _ _ ⟨(blk_cell BK508.out 0).trans rfl, (blk_cell BK508.out 1).trans rfl, (blk_cell BK508.out 2).trans rfl⟩ (fun hHeld => ?_)
   clear hK K
   refine rN ?_
   refine one_ (i := 7) (N := some 15) #[true, true, true, true, true, true, true, true, false] rfl rfl (one_of HT_.out (by kernel_rfl)) (by decide) (fun K hK => ?_)
   refine Kd.R_append_rows_step (Kd.int .u8) (w0 := w) w.heap.size (by rfl) (.tmp 10) (.tmp 14) 71 5 (.int .u8 0) 1 rfl Try.underlying71 info5 rfl (by decide) (by omega) v510 t509 t512 _ _ _ (fun k_ => some k_ ≠ (.slice Ao10 t512.length co10 : Value).ownBlock) (fun _ => False) rfl rfl ?aO ?aR (fun _ _ h => h) (fun _ h => h.elim) ?aF ?aB ?aS ?aL ?_
   (case aR => exact pC (rr HO514.out).2.2)
   (case aB => exact pB)
   (case aF => exact (fun k_ hk => Kd.fresh' (Kd.R_lt (pR HO514)) k_ hk))
   (case aO => exact (pT (Kd.R_mono HO511.out (fun _ hk => hk.2))))
   (case aS => exact (bs_ pB))
   (case aL => have := LMc4.out; omega)
   intro v516 w9 ho hb hg hat
   rw [← Ny515.out] at ho
   have n_ := t4 (blk_grown (g := gb508) (o := .cells #[.int .i64 a0_0, .slice A0_1 l0_1.length c0_1, .slice A0_2 l0_2.length c0_2] 54 (0, 0)) (pK BK508) hg (Kd.R_ne HO511.out BK508.out (by decide))) (Kd.R_after (ok := (fun _ => True)) (pR HO514) hg hat) (hb) (ho)
   clear BK508 HO514 HB HO511; obtain ⟨BK508, HO514, HB, HO517⟩ := n_; clear ho hb hg hat
   refine hK.out _ _ ⟨(blk_cell BK508.out 0).trans rfl, (blk_cell BK508.out 1).trans rfl, (blk_cell BK508.out 2).trans rfl⟩ (fun hHeld => ?_)
   clear hK K
   refine rN ?_
   refine rP 8 (some 3) #[true, true, true, true, true, true, true, true, true] (any_of HT_.out (by kernel_rfl)) ?_
   refine done_ (done_of HT_.out (by kernel_rfl)) ?_
   obtain ⟨hcz11_0, hcz11_1, hcz11_2, hfz11_0, hfz11_1, hfz11_2⟩ := bx3 BK508
   try go_wp2
   go_loopg [3, 19] k (fun kq v3 v19 w' => ∃ (x3_1 : List Int) (x19_1 : Int), v19 = .int .i64 x19_1 ∧ Aside0 (impl_packTx.l0 kq x3_1 l0_1 (l0_1.length : Int) x19_1 a0_0 l0_1 l0_2 = some r) ∧ Aside0 (kq ≤ k) ∧ Aside0 (Kd.R (Kd.int .u8) 5 w' w.heap.size (fun _ => True) v3 x3_1) ∧ Aside0 (w'.heap[gb508]? = some (.cells #[.int .i64 a0_0, (.slice A0_1 l0_1.length c0_1), (.slice A0_2 l0_2.length c0_2)] 54 (0, 0))) ∧ Aside0 (Below w.heap.size w w'))
   case atStart => exact ⟨(y515), (0), pF, H', ⟨Nat.le_refl _⟩, ⟨(pT (Kd.R_mono HO517.out (fun _ hk => trivial)))⟩, ⟨(pK BK508)⟩, ⟨pB⟩⟩
   case round =>
    clear H'
    (try clear c4); (try clear hcz11_0); (try clear hcz11_1); (try clear hcz11_2); (try clear hfz11_0); (try clear hfz11_1); (try clear hfz11_2)
    obtain ⟨x3_1, x19_1, rfl, HA, HK1, HO_3, BK508, HB⟩ := hrel
    cases gk with
    | zero => exact absurd HA.out (by simp [impl_packTx.l0])
    | succ k1 =>
     have H := HA.out
     clear HA
     simp only [impl_packTx.l0] at H
     by_cases c12 : x19_1 < (l0_1.length : Int)
     · rw [if_pos c12] at H
       have c12b0 : decide (x19_1 < (l0_1.length : Int)) = true := dt c12
       clear c12
       by_cases c13 : 0 ≤ x19_1
       · rw [if_pos c13] at H
         have c13b0 : decide (0 ≤ x19_1) = true := dt c13
         clear c13
         by_cases c14 : x19_1 < (l0_1.length : Int)
         · rw [if_pos c14] at H
           have c14b0 : decide (x19_1 < (l0_1.length : Int)) = true := dt c14
           clear c14
           obtain ⟨t520, A150, H⟩ := bO H
           replace H : ((impl_putVar.f ((rd_T77 l0_1 x19_1).f1)).bind fun t523 => ((impl_numbers.f k1 ((rd_T77 l0_1 x19_1).f2)).bind fun t526 => ((slices_Concat_byte_byte.f k1 (([x3_1, t520, t523, t526] : List (List Int)))).bind fun t532 => (impl_packTx.l0 k1 t532 l0_1 (l0_1.length : Int) (wrap64 (x19_1 + 1)) a0_0 l0_1 l0_2)))) = some r := H
           have A15 := am A150; clear A150
           obtain ⟨t523, A160, H⟩ := bO H
           replace H : ((impl_numbers.f k1 ((rd_T77 l0_1 x19_1).f2)).bind fun t526 => ((slices_Concat_byte_byte.f k1 (([x3_1, t520, t523, t526] : List (List Int)))).bind fun t532 => (impl_packTx.l0 k1 t532 l0_1 (l0_1.length : Int) (wrap64 (x19_1 + 1)) a0_0 l0_1 l0_2))) = some r := H
           have A16 := am A160; clear A160
           obtain ⟨t526, A170, H⟩ := bO H
           replace H : ((slices_Concat_byte_byte.f k1 (([x3_1, t520, t523, t526] : List (List Int)))).bind fun t532 => (impl_packTx.l0 k1 t532 l0_1 (l0_1.length : Int) (wrap64 (x19_1 + 1)) a0_0 l0_1 l0_2)) = some r := H
           have A17 := am A170; clear A170
           obtain ⟨y529, hy529⟩ : ∃ y_ : List (List Int), y_ = (([x3_1, t520, t523, t526] : List (List Int))) := ⟨_, rfl⟩
           replace H : ((slices_Concat_byte_byte.f k1 y529).bind fun t532 => (impl_packTx.l0 k1 t532 l0_1 (l0_1.length : Int) (wrap64 (x19_1 + 1)) a0_0 l0_1 l0_2)) = some r := by first | (rw [hy529]; with_reducible exact H) | (have H2_ := (Option.bind_some _ _).symm.trans H; rw [hy529]; with_reducible exact H2_) | (have H2_ := (Option.bind_some _ _).symm.trans H; with_reducible exact H2_) | with_reducible exact H | (rw [hy529]; exact H) | exact H
           have Ny529 := am hy529; clear hy529
           obtain ⟨t532, A180, H⟩ := bO H
           replace H : (impl_packTx.l0 k1 t532 l0_1 (l0_1.length : Int) (wrap64 (x19_1 + 1)) a0_0 l0_1 l0_2) = some r := H
           have A18 := am A180; clear A180
           have H' := am H
           clear H
           have p518 : 0 ≤ (x19_1 : Int) := pD
           have q518 : x19_1 < (l0_1.length : Int) := pD
           obtain ⟨ad518, A518_2, c518_2, e518, hx518_0, hx518_1, hx518_2, hl518_2, hi518_2⟩ := at_T77 HR0_1.out x19_1 p518 q518
           cases e518; replace hx518_0 := cb HB hx518_0; replace hx518_1 := cb HB hx518_1; replace hx518_2 := cb HB hx518_2; have HR518_2 := am hi518_2; have HC518_2 := am hl518_2; clear hi518_2 hl518_2; replace p518 := eq_true p518; replace q518 := eq_true q518
           try go_wp2_with (first | ((with_reducible refine gate_dst (N := 5) rfl ?_); refine box_event ?hg (N := 5) ?hd (cs := #[.int .i64 0, .int .i64 0, .slice none 0 0]) (t := 77) ?hr ?_; (case hd => rfl); (case hg => rfl); (case hr => first | (go_simp; done) | (go_simp; rfl)); intro gb519 hg w19 hbox hb; have n_ := t8 (Kd.R_below (pR HO_3) hb) (blk_below (g := gb508) (o := .cells #[.int .i64 a0_0, .slice (some ad518) l0_1.length c0_1, .slice A0_2 l0_2.length c0_2] 54 (0, 0)) (pK BK508) hb) (bz_ pB hb) (hbox) ((by rw [hg]; exact (bs_ pB) : w.heap.size ≤ gb519)) ((by rw [hg]; exact (bs_ pB) : w.heap.size ≤ gb519)) ((by rw [hg]; exact Nat.ne_of_lt (blk_lt (g := gb508) (o := .cells #[.int .i64 a0_0, .slice (some ad518) l0_1.length c0_1, .slice A0_2 l0_2.length c0_2] 54 (0, 0)) (pK BK508)) : gb508 ≠ gb519)) ((by rw [hg]; exact Nat.ne_of_gt (blk_lt (g := gb508) (o := .cells #[.int .i64 a0_0, .slice (some ad518) l0_1.length c0_1, .slice A0_2 l0_2.length c0_2] 54 (0, 0)) (pK BK508)) : gb519 ≠ gb508)); clear HO_3 BK508 HB; obtain ⟨HO_3, BK508, HB, BK519, GW519, GE519, NB508_519, NB519_508⟩ := n_; clear hb hbox hg; have hnb20 := NB519_508.out; have hnc20 := NB508_519.out; have hcz21_0 : w19.cell? ⟨gb519, 0, none⟩ = some (.int .i64 0) := (blk_cell BK519.out 0).trans rfl; have hcz21_1 : w19.cell? ⟨gb519, 1, none⟩ = some (.int .i64 0) := (blk_cell BK519.out 1).trans rfl; have hcz21_2 : w19.cell? ⟨gb519, 2, none⟩ = some (.slice none 0 0) := (blk_cell BK519.out 2).trans rfl; have hfz21_0 := blk_frozen BK519.out 0; have hfz21_1 := blk_frozen BK519.out 1; have hfz21_2 := blk_frozen BK519.out 2))
           have n0_ : Aside0 (Kd.R (Kd.int .u8) 5 (((w19.setCell ⟨gb519, 0, none⟩ (.int .i64 ((rd_T77 l0_1 x19_1).f0))).setCell ⟨gb519, 1, none⟩ (.int .i64 ((rd_T77 l0_1 x19_1).f1))).setCell ⟨gb519, 2, none⟩ (.slice A518_2 ((rd_T77 l0_1 x19_1).f2).length c518_2)) w.heap.size (fun _ => True) u3 x3_1) := ⟨(pT (Kd.R_mono (Kd.R_far (p := ⟨gb519, 2, none⟩) (Kd.R_far (p := ⟨gb519, 1, none⟩) (Kd.R_far (p := ⟨gb519, 0, none⟩) (Kd.R_types HO_3.out BK519.out (by decide)) (fun _ hk => hk.2) (.int .i64 ((rd_T77 l0_1 x19_1).f0))) (fun _ hk => hk.2) (.int .i64 ((rd_T77 l0_1 x19_1).f1))) (fun _ hk => hk.2) (.slice A518_2 ((rd_T77 l0_1 x19_1).f2).length c518_2)) (fun _ hk => trivial)))⟩
           have n1_ : Aside0 ((((w19.setCell ⟨gb519, 0, none⟩ (.int .i64 ((rd_T77 l0_1 x19_1).f0))).setCell ⟨gb519, 1, none⟩ (.int .i64 ((rd_T77 l0_1 x19_1).f1))).setCell ⟨gb519, 2, none⟩ (.slice A518_2 ((rd_T77 l0_1 x19_1).f2).length c518_2)).heap[gb508]? = some (.cells #[.int .i64 a0_0, .slice (some ad518) l0_1.length c0_1, .slice A0_2 l0_2.length c0_2] 54 (0, 0))) := ⟨by (with_reducible repeat (first | refine blk_drewN ?_ _ | refine blk_drew ?_ | refine blk_alloc ?_ _)); refine blk_far ?_ NB508_519.out _; (with_reducible repeat (first | refine blk_drewN ?_ _ | refine blk_drew ?_ | refine blk_alloc ?_ _)); refine blk_far ?_ NB508_519.out _; (with_reducible repeat (first | refine blk_drewN ?_ _ | refine blk_drew ?_ | refine blk_alloc ?_ _)); refine blk_far ?_ NB508_519.out _; (with_reducible repeat (first | refine blk_drewN ?_ _ | refine blk_drew ?_ | refine blk_alloc ?_ _)); exact BK508.out⟩
           have n2_ : Aside0 ((((w19.setCell ⟨gb519, 0, none⟩ (.int .i64 ((rd_T77 l0_1 x19_1).f0))).setCell ⟨gb519, 1, none⟩ (.int .i64 ((rd_T77 l0_1 x19_1).f1))).setCell ⟨gb519, 2, none⟩ (.slice A518_2 ((rd_T77 l0_1 x19_1).f2).length c518_2)).heap[gb519]? = some (.cells #[.int .i64 ((rd_T77 l0_1 x19_1).f0), .int .i64 ((rd_T77 l0_1 x19_1).f1), .slice A518_2 ((rd_T77 l0_1 x19_1).f2).length c518_2] 77 (0, 0))) := ⟨by (with_reducible repeat (first | refine blk_drewN ?_ _ | refine blk_drew ?_ | refine blk_alloc ?_ _)); refine blk_put (cs := #[.int .i64 ((rd_T77 l0_1 x19_1).f0), .int .i64 ((rd_T77 l0_1 x19_1).f1), .slice none 0 0]) ?_ 2 _ rfl; (with_reducible repeat (first | refine blk_drewN ?_ _ | refine blk_drew ?_ | refine blk_alloc ?_ _)); refine blk_put (cs := #[.int .i64 ((rd_T77 l0_1 x19_1).f0), .int .i64 0, .slice none 0 0]) ?_ 1 _ rfl; (with_reducible repeat (first | refine blk_drewN ?_ _ | refine blk_drew ?_ | refine blk_alloc ?_ _)); refine blk_put (cs := #[.int .i64 0, .int .i64 0, .slice none 0 0]) ?_ 0 _ rfl; (with_reducible repeat (first | refine blk_drewN ?_ _ | refine blk_drew ?_ | refine blk_alloc ?_ _)); exact BK519.out⟩
           have n3_ : Aside0 (Below w.heap.size w (((w19.setCell ⟨gb519, 0, none⟩ (.int .i64 ((rd_T77 l0_1 x19_1).f0))).setCell ⟨gb519, 1, none⟩ (.int .i64 ((rd_T77 l0_1 x19_1).f1))).setCell ⟨gb519, 2, none⟩ (.slice A518_2 ((rd_T77 l0_1 x19_1).f2).length c518_2))) := ⟨pB⟩
           (try clear HO_3); (try clear BK508); (try clear BK519); (try clear HB)
           generalize (((w19.setCell ⟨gb519, 0, none⟩ (.int .i64 ((rd_T77 l0_1 x19_1).f0))).setCell ⟨gb519, 1, none⟩ (.int .i64 ((rd_T77 l0_1 x19_1).f1))).setCell ⟨gb519, 2, none⟩ (.slice A518_2 ((rd_T77 l0_1 x19_1).f2).length c518_2)) = w22 at n0_ n1_ n2_ n3_ ⊢
           have HO_3 := n0_
           have BK508 := n1_
           have BK519 := n2_
           have HB := n3_
           clear n0_ n1_ n2_ n3_
           have n_ := t4 (Kd.R_drew HO_3.out) (blk_drew BK508.out) (blk_drew BK519.out) (below_drew1 HB.out)
           clear HO_3 BK508 BK519 HB; obtain ⟨HO_3, BK508, BK519, HB⟩ := n_
           refine start_ (n := 13) (S := fun w' => w'.cell? ⟨gb519, 0, none⟩ = some (.int .i64 ((rd_T77 l0_1 x19_1).f0)) ∧ w'.cell? ⟨gb519, 1, none⟩ = some (.int .i64 ((rd_T77 l0_1 x19_1).f1)) ∧ w'.cell? ⟨gb519, 2, none⟩ = some (.slice A518_2 ((rd_T77 l0_1 x19_1).f2).length c518_2)) (ds := []) #[false, false, false, false, false, false, false, false, false, false, false, false, false] (by kernel_rfl) rfl rfl ⟨(blk_cell BK519.out 0).trans rfl, (blk_cell BK519.out 1).trans rfl, (blk_cell BK519.out 2).trans rfl⟩ (fun hHeld => ?_); refine with_tabW impl_packTx.tab5 impl_packTx.bits5 (fun HT_ HW_ => ?_)
           generalize w22.drew = w23 at HO_3 BK508 BK519 HB hHeld ⊢
           refine rP 0 (some 23) #[true, false, false, false, false, false, false, false, false, false, false, false, false] (any_of HT_.out (by kernel_rfl)) ?_
           refine rP 1 (some 24) #[true, true, false, false, false, false, false, false, false, false, false, false, false] (any_of HT_.out (by kernel_rfl)) ?_
           refine rP 4 (some 27) #[true, true, false, false, true, false, false, false, false, false, false, false, false] (any_of HT_.out (by kernel_rfl)) ?_
           refine rP 7 (some 30) #[true, true, false, false, true, false, false, true, false, false, false, false, false] (any_of HT_.out (by kernel_rfl)) ?_
           refine rT 2 (some 25) #[true, true, true, false, true, false, false, true, false, false, false, false, false] (take_ofW HT_.out HW_.out (by kernel_rfl)) hHeld ?_
           refine rT 5 (some 28) #[true, true, true, false, true, true, false, true, false, false, false, false, false] (take_ofW HT_.out HW_.out (by kernel_rfl)) hHeld ?_
           refine rT 8 (some 31) #[true, true, true, false, true, true, false, true, true, false, false, false, false] (take_ofW HT_.out HW_.out (by kernel_rfl)) hHeld ?_
           refine one_ (i := 3) (N := some 26) #[true, true, true, true, true, true, false, true, true, false, false, false, false] rfl rfl (one_of HT_.out (by kernel_rfl)) (by decide) (fun K hK => ?_)
           refine goes_ Try.func90 (by kernel_rfl) rfl #[.int .i64 ((rd_T77 l0_1 x19_1).f0)] (by rfl) rfl rfl pA ?_
           with_reducible refine (impl_halves.calls ((rd_T77 l0_1 x19_1).f0) t520 _ A15.out).mono ?_
           rintro e w24 ⟨v521, rfl, ho0, hb⟩
           refine ⟨_, rfl, ?_⟩
           have n_ := t5 (rE (pR HO_3) (rB ho0) hb) (rL (rW ho0 (Kd.R_lt (pR HO_3))) (bs_ pB)) (blk_below (g := gb508) (o := .cells #[.int .i64 a0_0, .slice (some ad518) l0_1.length c0_1, .slice A0_2 l0_2.length c0_2] 54 (0, 0)) (pK BK508) hb) (blk_below (g := gb519) (o := .cells #[.int .i64 ((rd_T77 l0_1 x19_1).f0), .int .i64 ((rd_T77 l0_1 x19_1).f1), .slice A518_2 ((rd_T77 l0_1 x19_1).f2).length c518_2] 77 (0, 0)) (pK BK519) hb) (bz_ pB hb)
           clear HO_3 BK508 BK519 HB; obtain ⟨HO_3, HO522, BK508, BK519, HB⟩ := n_; (try clear hb); (try clear hb2); (try clear hk); (try clear hi); (try clear ho0)
           refine hK.out _ _ ⟨(blk_cell BK519.out 0).trans rfl, (blk_cell BK519.out 1).trans rfl, (blk_cell BK519.out 2).trans rfl⟩ (fun hHeld => ?_)
           clear hK K
           refine rN ?_
           refine one_ (i := 6) (N := some 29) #[true, true, true, true, true, true, true, true, true, false, false, false, false] rfl rfl (one_of HT_.out (by kernel_rfl)) (by decide) (fun K hK => ?_)
           refine goes_ Try.func88 (by kernel_rfl) rfl #[.int .i64 ((rd_T77 l0_1 x19_1).f1)] (by rfl) rfl rfl pA ?_
           with_reducible refine (impl_putVar.calls ((rd_T77 l0_1 x19_1).f1) t523 _ A16.out).mono ?_
           rintro e w25 ⟨v524, rfl, ho0, hb⟩
           refine ⟨_, rfl, ?_⟩
           have n_ := t6 (rE (pR HO_3) (rB ho0) hb) (rE (pR HO522) (rB ho0) hb) (rL (rW (rW ho0 (Kd.R_lt (pR HO_3))) (Kd.R_lt (pR HO522))) (bs_ pB)) (blk_below (g := gb508) (o := .cells #[.int .i64 a0_0, .slice (some ad518) l0_1.length c0_1, .slice A0_2 l0_2.length c0_2] 54 (0, 0)) (pK BK508) hb) (blk_below (g := gb519) (o := .cells #[.int .i64 ((rd_T77 l0_1 x19_1).f0), .int .i64 ((rd_T77 l0_1 x19_1).f1), .slice A518_2 ((rd_T77 l0_1 x19_1).f2).length c518_2] 77 (0, 0)) (pK BK519) hb) (bz_ pB hb)
           clear HO_3 HO522 BK508 BK519 HB; obtain ⟨HO_3, HO522, HO525, BK508, BK519, HB⟩ := n_; (try clear hb); (try clear hb2); (try clear hk); (try clear hi); (try clear ho0)
           refine hK.out _ _ ⟨(blk_cell BK519.out 0).trans rfl, (blk_cell BK519.out 1).trans rfl, (blk_cell BK519.out 2).trans rfl⟩ (fun hHeld => ?_)
           clear hK K
           refine rN ?_
           refine one_ (i := 9) (N := some 32) #[true, true, true, true, true, true, true, true, true, true, false, false, false] rfl rfl (one_of HT_.out (by kernel_rfl)) (by decide) (fun K hK => ?_)
           refine goes_ Try.func91 (by kernel_rfl) rfl #[.slice A518_2 ((rd_T77 l0_1 x19_1).f2).length c518_2] (by rfl) rfl rfl pA ?_
           with_reducible refine (impl_numbers.calls k1 _ _ ((rd_T77 l0_1 x19_1).f2) t526 _ ?side1 ?side2 A17.out).mono ?_
           (case side1 => exact pC (Kd.C_below HR518_2.out HB.out))
           (case side2 => exact HC518_2.out)
           rintro e w26 ⟨v527, rfl, ho0, hb⟩
           refine ⟨_, rfl, ?_⟩
           have n_ := t7 (rE (pR HO_3) (rB ho0) hb) (rE (pR HO522) (rB ho0) hb) (rE (pR HO525) (rB ho0) hb) (rL (rW (rW (rW ho0 (Kd.R_lt (pR HO_3))) (Kd.R_lt (pR HO522))) (Kd.R_lt (pR HO525))) (bs_ pB)) (blk_below (g := gb508) (o := .cells #[.int .i64 a0_0, .slice (some ad518) l0_1.length c0_1, .slice A0_2 l0_2.length c0_2] 54 (0, 0)) (pK BK508) hb) (blk_below (g := gb519) (o := .cells #[.int .i64 ((rd_T77 l0_1 x19_1).f0), .int .i64 ((rd_T77 l0_1 x19_1).f1), .slice A518_2 ((rd_T77 l0_1 x19_1).f2).length c518_2] 77 (0, 0)) (pK BK519) hb) (bz_ pB hb)
           clear HO_3 HO522 HO525 BK508 BK519 HB; obtain ⟨HO_3, HO522, HO525, HO528, BK508, BK519, HB⟩ := n_; (try clear hb); (try clear hb2); (try clear hk); (try clear hi); (try clear ho0)
           obtain ⟨Ao27, co27, eo27⟩ := rS HO_3.out
           (first | subst eo27 | (injection eo27 with f1_ f2_ f3_; have f4_ := f1_.symm; have f5_ := f3_.symm; clear f1_ f2_ f3_; subst f4_; subst f5_))
           obtain ⟨Ao28, co28, eo28⟩ := rS HO522.out
           (first | subst eo28 | (injection eo28 with f1_ f2_ f3_; have f4_ := f1_.symm; have f5_ := f3_.symm; clear f1_ f2_ f3_; subst f4_; subst f5_))
           obtain ⟨Ao29, co29, eo29⟩ := rS HO525.out
           (first | subst eo29 | (injection eo29 with f1_ f2_ f3_; have f4_ := f1_.symm; have f5_ := f3_.symm; clear f1_ f2_ f3_; subst f4_; subst f5_))
           obtain ⟨Ao30, co30, eo30⟩ := rS HO528.out
           (first | subst eo30 | (injection eo30 with f1_ f2_ f3_; have f4_ := f1_.symm; have f5_ := f3_.symm; clear f1_ f2_ f3_; subst f4_; subst f5_))
           refine hK.out _ _ ⟨(blk_cell BK519.out 0).trans rfl, (blk_cell BK519.out 1).trans rfl, (blk_cell BK519.out 2).trans rfl⟩ (fun hHeld => ?_)
           clear hK K
           refine rN ?_
           refine one_ (i := 10) (N := some 33) #[true, true, true, true, true, true, true, true, true, true, true, false, false] rfl rfl (one_of HT_.out (by kernel_rfl)) (by decide) (fun K hK => ?_)
           refine Kd.N_lit_step (Kd.slice 5 (Kd.int .u8)) _ 71 ?hg (N' := 33) ?hd (xs := ([x3_1, t520, t523, t526] : List (List Int))) (inner := [.slice Ao27 x3_1.length co27, .slice Ao28 t520.length co28, .slice Ao29 t523.length co29, .slice Ao30 t526.length co30]) (ok := (fun k_ => k_ ≠ gb508 ∧ k_ ≠ gb519)) (okp := (fun k_ => k_ ≠ gb508 ∧ k_ ≠ gb519)) ?hr ?hp (fun _ hk => hk) ((show ∀ k_, w26.heap.size ≤ k_ → (fun k_ => k_ ≠ gb508 ∧ k_ ≠ gb519) k_ from fun k_ hk => ⟨Kd.freshB (g := gb508) (o := .cells #[.int .i64 a0_0, .slice (some ad518) l0_1.length c0_1, .slice A0_2 l0_2.length c0_2] 54 (0, 0)) (pK BK508) k_ hk, Kd.freshB (g := gb519) (o := .cells #[.int .i64 ((rd_T77 l0_1 x19_1).f0), .int .i64 ((rd_T77 l0_1 x19_1).f1), .slice A518_2 ((rd_T77 l0_1 x19_1).f2).length c518_2] 77 (0, 0)) (pK BK519) k_ hk⟩) _ (Nat.le_refl _)) (Below.refl _ _) (Nat.le_refl _) (by simp) ?_; (case hd => rfl); (case hg => rfl); (case hr => first | (go_simp; done) | (go_simp; rfl)); (case hp => exact (Reps.one (show Kd.FK (Kd.slice 5 (Kd.int .u8)) _ _ x3_1 [.slice Ao27 x3_1.length co27] from (Kd.FK_slice_mk (rr (Kd.R_mono (ok' := (fun k_ => k_ ≠ gb508 ∧ k_ ≠ gb519)) (Kd.R_types (Kd.R_types (HO_3.out) BK508.out (by decide)) BK519.out (by decide)) (fun k_ hk => ⟨hk.1.2, hk.2⟩))).2.1 (Kd.R_F (Kd.R_mono (ok' := (fun k_ => k_ ≠ gb508 ∧ k_ ≠ gb519)) (Kd.R_types (Kd.R_types (HO_3.out) BK508.out (by decide)) BK519.out (by decide)) (fun k_ hk => ⟨hk.1.2, hk.2⟩))))) (Reps.one (show Kd.FK (Kd.slice 5 (Kd.int .u8)) _ _ t520 [.slice Ao28 t520.length co28] from (Kd.FK_slice_mk (rr (Kd.R_mono (ok' := (fun k_ => k_ ≠ gb508 ∧ k_ ≠ gb519)) (Kd.R_types (Kd.R_types (HO522.out) BK508.out (by decide)) BK519.out (by decide)) (fun k_ hk => ⟨hk.1.2, hk.2⟩))).2.1 (Kd.R_F (Kd.R_mono (ok' := (fun k_ => k_ ≠ gb508 ∧ k_ ≠ gb519)) (Kd.R_types (Kd.R_types (HO522.out) BK508.out (by decide)) BK519.out (by decide)) (fun k_ hk => ⟨hk.1.2, hk.2⟩))))) (Reps.one (show Kd.FK (Kd.slice 5 (Kd.int .u8)) _ _ t523 [.slice Ao29 t523.length co29] from (Kd.FK_slice_mk (rr (Kd.R_mono (ok' := (fun k_ => k_ ≠ gb508 ∧ k_ ≠ gb519)) (Kd.R_types (Kd.R_types (HO525.out) BK508.out (by decide)) BK519.out (by decide)) (fun k_ hk => ⟨hk.1.2, hk.2⟩))).2.1 (Kd.R_F (Kd.R_mono (ok' := (fun k_ => k_ ≠ gb508 ∧ k_ ≠ gb519)) (Kd.R_types (Kd.R_types (HO525.out) BK508.out (by decide)) BK519.out (by decide)) (fun k_ hk => ⟨hk.1.2, hk.2⟩))))) (Reps.one (show Kd.FK (Kd.slice 5 (Kd.int .u8)) _ _ t526 [.slice Ao30 t526.length co30] from (Kd.FK_slice_mk (rr (Kd.R_mono (ok' := (fun k_ => k_ ≠ gb508 ∧ k_ ≠ gb519)) (Kd.R_types (Kd.R_types (HO528.out) BK508.out (by decide)) BK519.out (by decide)) (fun k_ hk => ⟨hk.1.2, hk.2⟩))).2.1 (Kd.R_F (Kd.R_mono (ok' := (fun k_ => k_ ≠ gb508 ∧ k_ ≠ gb519)) (Kd.R_types (Kd.R_types (HO528.out) BK508.out (by decide)) BK519.out (by decide)) (fun k_ hk => ⟨hk.1.2, hk.2⟩))))) (Reps.none _ _))))))
           intro v530 w31 ho32 hb hg_ hnew_
           clear hg_ hnew_
           (first | rw [← Ny529.out] at ho32 | (simp only [Int.reduceToNat] at ho32; rw [← Ny529.out] at ho32))
           have n_ := t4 (Kd.N_lower ho32 (bs_ pB)) (blk_below (g := gb508) (o := .cells #[.int .i64 a0_0, .slice (some ad518) l0_1.length c0_1, .slice A0_2 l0_2.length c0_2] 54 (0, 0)) (pK BK508) hb) (blk_below (g := gb519) (o := .cells #[.int .i64 ((rd_T77 l0_1 x19_1).f0), .int .i64 ((rd_T77 l0_1 x19_1).f1), .slice A518_2 ((rd_T77 l0_1 x19_1).f2).length c518_2] 77 (0, 0)) (pK BK519) hb) (bz_ pB hb)
           clear BK508 BK519 HB HO522 HO525 HO528 HO_3; obtain ⟨HO531, BK508, BK519, HB⟩ := n_; clear hb ho32
           obtain ⟨Ao33, co33, eo33⟩ := Kd.N_slice HO531.out
           (first | subst eo33 | (injection eo33 with f1_ f2_ f3_; have f4_ := f1_.symm; have f5_ := f3_.symm; clear f1_ f2_ f3_; subst f4_; subst f5_))
           refine hK.out _ _ ⟨(blk_cell BK519.out 0).trans rfl, (blk_cell BK519.out 1).trans rfl, (blk_cell BK519.out 2).trans rfl⟩ (fun hHeld => ?_)
           clear hK K
           refine rN ?_
           refine one_ (i := 11) (N := some 34) #[true, true, true, true, true, true, true, true, true, true, true, true, false] rfl rfl (one_of HT_.out (by kernel_rfl)) (by decide) (fun K hK => ?_)
           refine goes_ Try.func89 (by kernel_rfl) rfl #[.slice Ao33 y529.length co33] (by rfl) rfl rfl pA ?_
           with_reducible refine (slices_Concat_byte_byte.calls k1 _ _ y529 t532 _ ?side1 ?side2 A18.out).mono ?_
           (case side1 => exact pC (Kd.N_reads' HO531.out).2.2)
           (case side2 => exact (Kd.N_reads' HO531.out).2.1)
           rintro e w34 ⟨v533, rfl, ho0, hb⟩
           refine ⟨_, rfl, ?_⟩
           have n_ := t5 (Kd.N_elder' (by (with_reducible repeat (first | apply Kd.N_alloc | apply Kd.N_drewN | apply Kd.N_drew)); exact HO531.out) (rB ho0) hb) (rL ho0 (bs_ pB)) (blk_below (g := gb508) (o := .cells #[.int .i64 a0_0, .slice (some ad518) l0_1.length c0_1, .slice A0_2 l0_2.length c0_2] 54 (0, 0)) (pK BK508) hb) (blk_below (g := gb519) (o := .cells #[.int .i64 ((rd_T77 l0_1 x19_1).f0), .int .i64 ((rd_T77 l0_1 x19_1).f1), .slice A518_2 ((rd_T77 l0_1 x19_1).f2).length c518_2] 77 (0, 0)) (pK BK519) hb) (bz_ pB hb)
           clear HO531 BK508 BK519 HB; obtain ⟨HO531, HO534, BK508, BK519, HB⟩ := n_; (try clear hb); (try clear hb2); (try clear hk); (try clear hi); (try clear ho0)
           refine hK.out _ _ ⟨(blk_cell BK519.out 0).trans rfl, (blk_cell BK519.out 1).trans rfl, (blk_cell BK519.out 2).trans rfl⟩ (fun hHeld => ?_)
           clear hK K
           refine rN ?_
           refine rP 12 (some 3) #[true, true, true, true, true, true, true, true, true, true, true, true, true] (any_of HT_.out (by kernel_rfl)) ?_
           refine done_ (done_of HT_.out (by kernel_rfl)) ?_
           try go_wp2
           go_roundg k1
           case measure => have := HK1.out; omega
           case rel => exact ⟨(t532), (wrap64 (x19_1 + 1)), pF, H', ⟨by have := HK1.out; omega⟩, ⟨(pR HO534)⟩, ⟨(pK BK508)⟩, ⟨pB⟩⟩
         · rw [if_neg c14] at H
           exact absurd H (by simp)
       · rw [if_neg c13] at H
         exact absurd H (by simp)
     · rw [if_neg c12] at H
       have c12b0 : decide (x19_1 < (l0_1.length : Int)) = false := decide_eq_false c12
       clear c12
       obtain ⟨t535, A350, H⟩ := bO H
       replace H : (if x3_1.length + t535.length < 140737488355328 then (impl_packTx.l1 k1 (x3_1 ++ t535) l0_2 (l0_2.length : Int) 0) else (none)) = some r := H
       have A35 := am A350; clear A350
       by_cases c36 : x3_1.length + t535.length < 140737488355328
       · rw [if_pos c36] at H
         have LMc36 := am c36; clear c36
         obtain ⟨y538, hy538⟩ : ∃ y_ : List Int, y_ = (x3_1 ++ t535) := ⟨_, rfl⟩
         replace H : (impl_packTx.l1 k1 y538 l0_2 (l0_2.length : Int) 0) = some r := by first | (rw [hy538]; with_reducible exact H) | (have H2_ := (Option.bind_some _ _).symm.trans H; rw [hy538]; with_reducible exact H2_) | (have H2_ := (Option.bind_some _ _).symm.trans H; with_reducible exact H2_) | with_reducible exact H | (rw [hy538]; exact H) | exact H
         have Ny538 := am hy538; clear hy538
         have H' := am H
         clear H
         obtain ⟨hcz37_0, hcz37_1, hcz37_2, hfz37_0, hfz37_1, hfz37_2⟩ := bx3 BK508
         go_wp2_with (first | ((with_reducible refine gC (f := 88) rfl ?_); refine goesL_ (some 40) rfl rfl Try.func88 (by kernel_rfl) rfl #[.int .i64 (l0_2.length : Int)] rfl pA ?_; (with_reducible refine (impl_putVar.calls (l0_2.length : Int) t535 _ A35.out).mono ?_); rintro e w38 ⟨v536, rfl, ho0, hb⟩; refine ⟨_, rfl, ?_⟩; have n_ := t4 (rE (pR HO_3) (rB ho0) hb) (rL (rW ho0 (Kd.R_lt (pR HO_3))) (bs_ pB)) (blk_below (g := gb508) (o := .cells #[.int .i64 a0_0, .slice A0_1 l0_1.length c0_1, .slice A0_2 l0_2.length c0_2] 54 (0, 0)) (pK BK508) hb) (bz_ pB hb); clear HO_3 BK508 HB; obtain ⟨HO_3, HO537, BK508, HB⟩ := n_; (try clear hb); (try clear ho0); obtain ⟨Ao40, co40, eo40⟩ := rS HO537.out; subst eo40) | ((with_reducible refine gB (b := .append) (xs := #[.tmp 36, .tmp 40]) rfl ?_); at_builtin; refine Kd.R_append_rows (Kd.int .u8) (w0 := w) w.heap.size rfl (.tmp 36) (.tmp 40) 71 5 (.int .u8 0) 1 rfl Try.underlying71 info5 rfl (by decide) (by omega) u3 x3_1 t535 _ _ _ (fun k_ => some k_ ≠ (.slice Ao40 t535.length co40 : Value).ownBlock) (fun _ => False) rfl rfl ?aO ?aR (fun _ _ h => h) (fun _ h => h.elim) ?aF ?aB ?aS ?aL ?_; (case aR => exact pC (rr HO537.out).2.2); (case aB => exact pB); (case aF => exact (fun k_ hk => Kd.fresh' (Kd.R_lt (pR HO537)) k_ hk)); (case aO => exact (pT (Kd.R_mono HO_3.out (fun _ hk => hk.2)))); (case aS => exact (bs_ pB)); (case aL => have := LMc36.out; omega); intro v539 w39 ho hb hg hat; rw [← Ny538.out] at ho; have n_ := t4 (blk_grown (g := gb508) (o := .cells #[.int .i64 a0_0, .slice A0_1 l0_1.length c0_1, .slice A0_2 l0_2.length c0_2] 54 (0, 0)) (pK BK508) hg (Kd.R_ne HO_3.out BK508.out (by decide))) (Kd.R_after (ok := (fun _ => True)) (pR HO537) hg hat) (hb) (ho); clear BK508 HO537 HB HO_3; obtain ⟨BK508, HO537, HB, HO540⟩ := n_; clear ho hb hg hat; have hcz41_0 : w39.cell? ⟨gb508, 0, none⟩ = some (.int .i64 a0_0) := (blk_cell BK508.out 0).trans rfl; have hcz41_1 : w39.cell? ⟨gb508, 1, none⟩ = some (.slice A0_1 l0_1.length c0_1) := (blk_cell BK508.out 1).trans rfl; have hcz41_2 : w39.cell? ⟨gb508, 2, none⟩ = some (.slice A0_2 l0_2.length c0_2) := (blk_cell BK508.out 2).trans rfl; have hfz41_0 := blk_frozen BK508.out 0; have hfz41_1 := blk_frozen BK508.out 1; have hfz41_2 := blk_frozen BK508.out 2))
         go_loopg [3, 45] k1 (fun kq v3 v45 w' => ∃ (x3_2 : List Int) (x45_2 : Int), v45 = .int .i64 x45_2 ∧ Aside0 (impl_packTx.l1 kq x3_2 l0_2 (l0_2.length : Int) x45_2 = some r) ∧ Aside0 (kq ≤ k1) ∧ Aside0 (Kd.R (Kd.int .u8) 5 w' w.heap.size (fun _ => True) v3 x3_2) ∧ Aside0 (w'.heap[gb508]? = some (.cells #[.int .i64 a0_0, (.slice A0_1 l0_1.length c0_1), (.slice A0_2 l0_2.length c0_2)] 54 (0, 0))) ∧ Aside0 (Below w.heap.size w w'))
         case atStart => exact ⟨(y538), (0), pF, H', ⟨Nat.le_refl _⟩, ⟨(pT (Kd.R_mono HO540.out (fun _ hk => trivial)))⟩, ⟨(pK BK508)⟩, ⟨pB⟩⟩
         case round =>
          clear H'
          (try clear c4); (try clear c12); (try clear c12b0); (try clear c36); (try clear hcz11_0); (try clear hcz11_1); (try clear hcz11_2); (try clear hcz37_0); (try clear hcz37_1); (try clear hcz37_2); (try clear hcz41_0); (try clear hcz41_1); (try clear hcz41_2); (try clear hfz11_0); (try clear hfz11_1); (try clear hfz11_2); (try clear hfz37_0); (try clear hfz37_1); (try clear hfz37_2); (try clear hfz41_0); (try clear hfz41_1); (try clear hfz41_2)
          obtain ⟨x3_2, x45_2, rfl, HA, HK2, HO_3, BK508, HB⟩ := hrel
          cases gk with
          | zero => exact absurd HA.out (by simp [impl_packTx.l1])
          | succ k2 =>
           have H := HA.out
           clear HA
           simp only [impl_packTx.l1] at H
           by_cases c42 : x45_2 < (l0_2.length : Int)
           · rw [if_pos c42] at H
             have c42b0 : decide (x45_2 < (l0_2.length : Int)) = true := dt c42
             clear c42
             by_cases c43 : 0 ≤ x45_2
             · rw [if_pos c43] at H
               have c43b0 : decide (0 ≤ x45_2) = true := dt c43
               clear c43
               by_cases c44 : x45_2 < (l0_2.length : Int)
               · rw [if_pos c44] at H
                 have c44b0 : decide (x45_2 < (l0_2.length : Int)) = true := dt c44
                 clear c44
                 obtain ⟨t543, A450, H⟩ := bO H
                 replace H : ((impl_numbers.f k2 ((rd_T80 l0_2 x45_2).f1)).bind fun t546 => ((slices_Concat_byte_byte.f k2 (([x3_2, t543, t546] : List (List Int)))).bind fun t552 => (impl_packTx.l1 k2 t552 l0_2 (l0_2.length : Int) (wrap64 (x45_2 + 1))))) = some r := H
                 have A45 := am A450; clear A450
                 obtain ⟨t546, A460, H⟩ := bO H
                 replace H : ((slices_Concat_byte_byte.f k2 (([x3_2, t543, t546] : List (List Int)))).bind fun t552 => (impl_packTx.l1 k2 t552 l0_2 (l0_2.length : Int) (wrap64 (x45_2 + 1)))) = some r := H
                 have A46 := am A460; clear A460
                 obtain ⟨y549, hy549⟩ : ∃ y_ : List (List Int), y_ = (([x3_2, t543, t546] : List (List Int))) := ⟨_, rfl⟩
                 replace H : ((slices_Concat_byte_byte.f k2 y549).bind fun t552 => (impl_packTx.l1 k2 t552 l0_2 (l0_2.length : Int) (wrap64 (x45_2 + 1)))) = some r := by first | (rw [hy549]; with_reducible exact H) | (have H2_ := (Option.bind_some _ _).symm.trans H; rw [hy549]; with_reducible exact H2_) | (have H2_ := (Option.bind_some _ _).symm.trans H; with_reducible exact H2_) | with_reducible exact H | (rw [hy549]; exact H) | exact H
                 have Ny549 := am hy549; clear hy549
                 obtain ⟨t552, A470, H⟩ := bO H
                 replace H : (impl_packTx.l1 k2 t552 l0_2 (l0_2.length : Int) (wrap64 (x45_2 + 1))) = some r := H
                 have A47 := am A470; clear A470
                 have H' := am H
                 clear H
                 have p541 : 0 ≤ (x45_2 : Int) := pD
                 have q541 : x45_2 < (l0_2.length : Int) := pD
                 obtain ⟨ad541, A541_1, c541_1, e541, hx541_0, hx541_1, hl541_1, hi541_1⟩ := at_T80 HR0_2.out x45_2 p541 q541
                 cases e541; replace hx541_0 := cb HB hx541_0; replace hx541_1 := cb HB hx541_1; have HR541_1 := am hi541_1; have HC541_1 := am hl541_1; clear hi541_1 hl541_1; replace p541 := eq_true p541; replace q541 := eq_true q541
                 try go_wp2_with (first | ((with_reducible refine gate_dst (N := 7) rfl ?_); refine box_event ?hg (N := 7) ?hd (cs := #[.int .i64 0, .slice none 0 0]) (t := 80) ?hr ?_; (case hd => rfl); (case hg => rfl); (case hr => first | (go_simp; done) | (go_simp; rfl)); intro gb542 hg w48 hbox hb; have n_ := t8 (Kd.R_below (pR HO_3) hb) (blk_below (g := gb508) (o := .cells #[.int .i64 a0_0, .slice A0_1 l0_1.length c0_1, .slice (some ad541) l0_2.length c0_2] 54 (0, 0)) (pK BK508) hb) (bz_ pB hb) (hbox) ((by rw [hg]; exact (bs_ pB) : w.heap.size ≤ gb542)) ((by rw [hg]; exact (bs_ pB) : w.heap.size ≤ gb542)) ((by rw [hg]; exact Nat.ne_of_lt (blk_lt (g := gb508) (o := .cells #[.int .i64 a0_0, .slice A0_1 l0_1.length c0_1, .slice (some ad541) l0_2.length c0_2] 54 (0, 0)) (pK BK508)) : gb508 ≠ gb542)) ((by rw [hg]; exact Nat.ne_of_gt (blk_lt (g := gb508) (o := .cells #[.int .i64 a0_0, .slice A0_1 l0_1.length c0_1, .slice (some ad541) l0_2.length c0_2] 54 (0, 0)) (pK BK508)) : gb542 ≠ gb508)); clear HO_3 BK508 HB; obtain ⟨HO_3, BK508, HB, BK542, GW542, GE542, NB508_542, NB542_508⟩ := n_; clear hb hbox hg; have hnb49 := NB542_508.out; have hnc49 := NB508_542.out; have hcz50_0 : w48.cell? ⟨gb542, 0, none⟩ = some (.int .i64 0) := (blk_cell BK542.out 0).trans rfl; have hcz50_1 : w48.cell? ⟨gb542, 1, none⟩ = some (.slice none 0 0) := (blk_cell BK542.out 1).trans rfl; have hfz50_0 := blk_frozen BK542.out 0; have hfz50_1 := blk_frozen BK542.out 1))
                 have n0_ : Aside0 (Kd.R (Kd.int .u8) 5 ((w48.setCell ⟨gb542, 0, none⟩ (.int .i64 ((rd_T80 l0_2 x45_2).f0))).setCell ⟨gb542, 1, none⟩ (.slice A541_1 ((rd_T80 l0_2 x45_2).f1).length c541_1)) w.heap.size (fun _ => True) u3 x3_2) := ⟨(pT (Kd.R_mono (Kd.R_far (p := ⟨gb542, 1, none⟩) (Kd.R_far (p := ⟨gb542, 0, none⟩) (Kd.R_types HO_3.out BK542.out (by decide)) (fun _ hk => hk.2) (.int .i64 ((rd_T80 l0_2 x45_2).f0))) (fun _ hk => hk.2) (.slice A541_1 ((rd_T80 l0_2 x45_2).f1).length c541_1)) (fun _ hk => trivial)))⟩
                 have n1_ : Aside0 (((w48.setCell ⟨gb542, 0, none⟩ (.int .i64 ((rd_T80 l0_2 x45_2).f0))).setCell ⟨gb542, 1, none⟩ (.slice A541_1 ((rd_T80 l0_2 x45_2).f1).length c541_1)).heap[gb508]? = some (.cells #[.int .i64 a0_0, .slice A0_1 l0_1.length c0_1, .slice (some ad541) l0_2.length c0_2] 54 (0, 0))) := ⟨by (with_reducible repeat (first | refine blk_drewN ?_ _ | refine blk_drew ?_ | refine blk_alloc ?_ _)); refine blk_far ?_ NB508_542.out _; (with_reducible repeat (first | refine blk_drewN ?_ _ | refine blk_drew ?_ | refine blk_alloc ?_ _)); refine blk_far ?_ NB508_542.out _; (with_reducible repeat (first | refine blk_drewN ?_ _ | refine blk_drew ?_ | refine blk_alloc ?_ _)); exact BK508.out⟩
                 have n2_ : Aside0 (((w48.setCell ⟨gb542, 0, none⟩ (.int .i64 ((rd_T80 l0_2 x45_2).f0))).setCell ⟨gb542, 1, none⟩ (.slice A541_1 ((rd_T80 l0_2 x45_2).f1).length c541_1)).heap[gb542]? = some (.cells #[.int .i64 ((rd_T80 l0_2 x45_2).f0), .slice A541_1 ((rd_T80 l0_2 x45_2).f1).length c541_1] 80 (0, 0))) := ⟨by (with_reducible repeat (first | refine blk_drewN ?_ _ | refine blk_drew ?_ | refine blk_alloc ?_ _)); refine blk_put (cs := #[.int .i64 ((rd_T80 l0_2 x45_2).f0), .slice none 0 0]) ?_ 1 _ rfl; (with_reducible repeat (first | refine blk_drewN ?_ _ | refine blk_drew ?_ | refine blk_alloc ?_ _)); refine blk_put (cs := #[.int .i64 0, .slice none 0 0]) ?_ 0 _ rfl; (with_reducible repeat (first | refine blk_drewN ?_ _ | refine blk_drew ?_ | refine blk_alloc ?_ _)); exact BK542.out⟩
                 have n3_ : Aside0 (Below w.heap.size w ((w48.setCell ⟨gb542, 0, none⟩ (.int .i64 ((rd_T80 l0_2 x45_2).f0))).setCell ⟨gb542, 1, none⟩ (.slice A541_1 ((rd_T80 l0_2 x45_2).f1).length c541_1))) := ⟨pB⟩
                 (try clear HO_3); (try clear BK508); (try clear BK542); (try clear HB)
                 generalize ((w48.setCell ⟨gb542, 0, none⟩ (.int .i64 ((rd_T80 l0_2 x45_2).f0))).setCell ⟨gb542, 1, none⟩ (.slice A541_1 ((rd_T80 l0_2 x45_2).f1).length c541_1)) = w51 at n0_ n1_ n2_ n3_ ⊢
                 have HO_3 := n0_
                 have BK508 := n1_
                 have BK542 := n2_
                 have HB := n3_
                 clear n0_ n1_ n2_ n3_
                 have n_ := t4 (Kd.R_drew HO_3.out) (blk_drew BK508.out) (blk_drew BK542.out) (below_drew1 HB.out)
                 clear HO_3 BK508 BK542 HB; obtain ⟨HO_3, BK508, BK542, HB⟩ := n_
                 refine start_ (n := 10) (S := fun w' => w'.cell? ⟨gb542, 0, none⟩ = some (.int .i64 ((rd_T80 l0_2 x45_2).f0)) ∧ w'.cell? ⟨gb542, 1, none⟩ = some (.slice A541_1 ((rd_T80 l0_2 x45_2).f1).length c541_1)) (ds := []) #[false, false, false, false, false, false, false, false, false, false] (by kernel_rfl) rfl rfl ⟨(blk_cell BK542.out 0).trans rfl, (blk_cell BK542.out 1).trans rfl⟩ (fun hHeld => ?_); refine with_tabW impl_packTx.tab11 impl_packTx.bits11 (fun HT_ HW_ => ?_)
                 generalize w51.drew = w52 at HO_3 BK508 BK542 HB hHeld ⊢
                 refine rP 0 (some 49) #[true, false, false, false, false, false, false, false, false, false] (any_of HT_.out (by kernel_rfl)) ?_
                 refine rP 1 (some 50) #[true, true, false, false, false, false, false, false, false, false] (any_of HT_.out (by kernel_rfl)) ?_
                 refine rP 4 (some 53) #[true, true, false, false, true, false, false, false, false, false] (any_of HT_.out (by kernel_rfl)) ?_
                 refine rT 2 (some 51) #[true, true, true, false, true, false, false, false, false, false] (take_ofW HT_.out HW_.out (by kernel_rfl)) hHeld ?_
                 refine rT 5 (some 54) #[true, true, true, false, true, true, false, false, false, false] (take_ofW HT_.out HW_.out (by kernel_rfl)) hHeld ?_
                 refine one_ (i := 3) (N := some 52) #[true, true, true, true, true, true, false, false, false, false] rfl rfl (one_of HT_.out (by kernel_rfl)) (by decide) (fun K hK => ?_)
                 refine goes_ Try.func90 (by kernel_rfl) rfl #[.int .i64 ((rd_T80 l0_2 x45_2).f0)] (by rfl) rfl rfl pA ?_
                 with_reducible refine (impl_halves.calls ((rd_T80 l0_2 x45_2).f0) t543 _ A45.out).mono ?_
                 rintro e w53 ⟨v544, rfl, ho0, hb⟩
                 refine ⟨_, rfl, ?_⟩
                 have n_ := t5 (rE (pR HO_3) (rB ho0) hb) (rL (rW ho0 (Kd.R_lt (pR HO_3))) (bs_ pB)) (blk_below (g := gb508) (o := .cells #[.int .i64 a0_0, .slice A0_1 l0_1.length c0_1, .slice (some ad541) l0_2.length c0_2] 54 (0, 0)) (pK BK508) hb) (blk_below (g := gb542) (o := .cells #[.int .i64 ((rd_T80 l0_2 x45_2).f0), .slice A541_1 ((rd_T80 l0_2 x45_2).f1).length c541_1] 80 (0, 0)) (pK BK542) hb) (bz_ pB hb)
                 clear HO_3 BK508 BK542 HB; obtain ⟨HO_3, HO545, BK508, BK542, HB⟩ := n_; (try clear hb); (try clear hb2); (try clear hk); (try clear hi); (try clear ho0)
                 refine hK.out _ _ ⟨(blk_cell BK542.out 0).trans rfl, (blk_cell BK542.out 1).trans rfl⟩ (fun hHeld => ?_)
                 clear hK K
                 refine rN ?_
                 refine one_ (i := 6) (N := some 55) #[true, true, true, true, true, true, true, false, false, false] rfl rfl (one_of HT_.out (by kernel_rfl)) (by decide) (fun K hK => ?_)
                 refine goes_ Try.func91 (by kernel_rfl) rfl #[.slice A541_1 ((rd_T80 l0_2 x45_2).f1).length c541_1] (by rfl) rfl rfl pA ?_
                 with_reducible refine (impl_numbers.calls k2 _ _ ((rd_T80 l0_2 x45_2).f1) t546 _ ?side1 ?side2 A46.out).mono ?_
                 (case side1 => exact pC (Kd.C_below HR541_1.out HB.out))
                 (case side2 => exact HC541_1.out)
                 rintro e w54 ⟨v547, rfl, ho0, hb⟩
                 refine ⟨_, rfl, ?_⟩
                 have n_ := t6 (rE (pR HO_3) (rB ho0) hb) (rE (pR HO545) (rB ho0) hb) (rL (rW (rW ho0 (Kd.R_lt (pR HO_3))) (Kd.R_lt (pR HO545))) (bs_ pB)) (blk_below (g := gb508) (o := .cells #[.int .i64 a0_0, .slice A0_1 l0_1.length c0_1, .slice (some ad541) l0_2.length c0_2] 54 (0, 0)) (pK BK508) hb) (blk_below (g := gb542) (o := .cells #[.int .i64 ((rd_T80 l0_2 x45_2).f0), .slice A541_1 ((rd_T80 l0_2 x45_2).f1).length c541_1] 80 (0, 0)) (pK BK542) hb) (bz_ pB hb)
                 clear HO_3 HO545 BK508 BK542 HB; obtain ⟨HO_3, HO545, HO548, BK508, BK542, HB⟩ := n_; (try clear hb); (try clear hb2); (try clear hk); (try clear hi); (try clear ho0)
                 obtain ⟨Ao55, co55, eo55⟩ := rS HO_3.out
                 (first | subst eo55 | (injection eo55 with f1_ f2_ f3_; have f4_ := f1_.symm; have f5_ := f3_.symm; clear f1_ f2_ f3_; subst f4_; subst f5_))
                 obtain ⟨Ao56, co56, eo56⟩ := rS HO545.out
                 (first | subst eo56 | (injection eo56 with f1_ f2_ f3_; have f4_ := f1_.symm; have f5_ := f3_.symm; clear f1_ f2_ f3_; subst f4_; subst f5_))
                 obtain ⟨Ao57, co57, eo57⟩ := rS HO548.out
                 (first | subst eo57 | (injection eo57 with f1_ f2_ f3_; have f4_ := f1_.symm; have f5_ := f3_.symm; clear f1_ f2_ f3_; subst f4_; subst f5_))
                 refine hK.out _ _ ⟨(blk_cell BK542.out 0).trans rfl, (blk_cell BK542.out 1).trans rfl⟩ (fun hHeld => ?_)
                 clear hK K
                 refine rN ?_
                 refine one_ (i := 7) (N := some 56) #[true, true, true, true, true, true, true, true, false, false] rfl rfl (one_of HT_.out (by kernel_rfl)) (by decide) (fun K hK => ?_)
                 refine Kd.N_lit_step (Kd.slice 5 (Kd.int .u8)) _ 71 ?hg (N' := 56) ?hd (xs := ([x3_2, t543, t546] : List (List Int))) (inner := [.slice Ao55 x3_2.length co55, .slice Ao56 t543.length co56, .slice Ao57 t546.length co57]) (ok := (fun k_ => k_ ≠ gb508 ∧ k_ ≠ gb542)) (okp := (fun k_ => k_ ≠ gb508 ∧ k_ ≠ gb542)) ?hr ?hp (fun _ hk => hk) ((show ∀ k_, w54.heap.size ≤ k_ → (fun k_ => k_ ≠ gb508 ∧ k_ ≠ gb542) k_ from fun k_ hk => ⟨Kd.freshB (g := gb508) (o := .cells #[.int .i64 a0_0, .slice A0_1 l0_1.length c0_1, .slice (some ad541) l0_2.length c0_2] 54 (0, 0)) (pK BK508) k_ hk, Kd.freshB (g := gb542) (o := .cells #[.int .i64 ((rd_T80 l0_2 x45_2).f0), .slice A541_1 ((rd_T80 l0_2 x45_2).f1).length c541_1] 80 (0, 0)) (pK BK542) k_ hk⟩) _ (Nat.le_refl _)) (Below.refl _ _) (Nat.le_refl _) (by simp) ?_; (case hd => rfl); (case hg => rfl); (case hr => first | (go_simp; done) | (go_simp; rfl)); (case hp => exact (Reps.one (show Kd.FK (Kd.slice 5 (Kd.int .u8)) _ _ x3_2 [.slice Ao55 x3_2.length co55] from (Kd.FK_slice_mk (rr (Kd.R_mono (ok' := (fun k_ => k_ ≠ gb508 ∧ k_ ≠ gb542)) (Kd.R_types (Kd.R_types (HO_3.out) BK508.out (by decide)) BK542.out (by decide)) (fun k_ hk => ⟨hk.1.2, hk.2⟩))).2.1 (Kd.R_F (Kd.R_mono (ok' := (fun k_ => k_ ≠ gb508 ∧ k_ ≠ gb542)) (Kd.R_types (Kd.R_types (HO_3.out) BK508.out (by decide)) BK542.out (by decide)) (fun k_ hk => ⟨hk.1.2, hk.2⟩))))) (Reps.one (show Kd.FK (Kd.slice 5 (Kd.int .u8)) _ _ t543 [.slice Ao56 t543.length co56] from (Kd.FK_slice_mk (rr (Kd.R_mono (ok' := (fun k_ => k_ ≠ gb508 ∧ k_ ≠ gb542)) (Kd.R_types (Kd.R_types (HO545.out) BK508.out (by decide)) BK542.out (by decide)) (fun k_ hk => ⟨hk.1.2, hk.2⟩))).2.1 (Kd.R_F (Kd.R_mono (ok' := (fun k_ => k_ ≠ gb508 ∧ k_ ≠ gb542)) (Kd.R_types (Kd.R_types (HO545.out) BK508.out (by decide)) BK542.out (by decide)) (fun k_ hk => ⟨hk.1.2, hk.2⟩))))) (Reps.one (show Kd.FK (Kd.slice 5 (Kd.int .u8)) _ _ t546 [.slice Ao57 t546.length co57] from (Kd.FK_slice_mk (rr (Kd.R_mono (ok' := (fun k_ => k_ ≠ gb508 ∧ k_ ≠ gb542)) (Kd.R_types (Kd.R_types (HO548.out) BK508.out (by decide)) BK542.out (by decide)) (fun k_ hk => ⟨hk.1.2, hk.2⟩))).2.1 (Kd.R_F (Kd.R_mono (ok' := (fun k_ => k_ ≠ gb508 ∧ k_ ≠ gb542)) (Kd.R_types (Kd.R_types (HO548.out) BK508.out (by decide)) BK542.out (by decide)) (fun k_ hk => ⟨hk.1.2, hk.2⟩))))) (Reps.none _ _)))))
                 intro v550 w58 ho59 hb hg_ hnew_
                 clear hg_ hnew_
                 (first | rw [← Ny549.out] at ho59 | (simp only [Int.reduceToNat] at ho59; rw [← Ny549.out] at ho59))
                 have n_ := t4 (Kd.N_lower ho59 (bs_ pB)) (blk_below (g := gb508) (o := .cells #[.int .i64 a0_0, .slice A0_1 l0_1.length c0_1, .slice (some ad541) l0_2.length c0_2] 54 (0, 0)) (pK BK508) hb) (blk_below (g := gb542) (o := .cells #[.int .i64 ((rd_T80 l0_2 x45_2).f0), .slice A541_1 ((rd_T80 l0_2 x45_2).f1).length c541_1] 80 (0, 0)) (pK BK542) hb) (bz_ pB hb)
                 clear BK508 BK542 HB HO545 HO548 HO_3; obtain ⟨HO551, BK508, BK542, HB⟩ := n_; clear hb ho59
                 obtain ⟨Ao60, co60, eo60⟩ := Kd.N_slice HO551.out
                 (first | subst eo60 | (injection eo60 with f1_ f2_ f3_; have f4_ := f1_.symm; have f5_ := f3_.symm; clear f1_ f2_ f3_; subst f4_; subst f5_))
                 refine hK.out _ _ ⟨(blk_cell BK542.out 0).trans rfl, (blk_cell BK542.out 1).trans rfl⟩ (fun hHeld => ?_)
                 clear hK K
                 refine rN ?_
                 refine one_ (i := 8) (N := some 57) #[true, true, true, true, true, true, true, true, true, false] rfl rfl (one_of HT_.out (by kernel_rfl)) (by decide) (fun K hK => ?_)
                 refine goes_ Try.func89 (by kernel_rfl) rfl #[.slice Ao60 y549.length co60] (by rfl) rfl rfl pA ?_
                 with_reducible refine (slices_Concat_byte_byte.calls k2 _ _ y549 t552 _ ?side1 ?side2 A47.out).mono ?_
                 (case side1 => exact pC (Kd.N_reads' HO551.out).2.2)
                 (case side2 => exact (Kd.N_reads' HO551.out).2.1)
                 rintro e w61 ⟨v553, rfl, ho0, hb⟩
                 refine ⟨_, rfl, ?_⟩
                 have n_ := t5 (Kd.N_elder' (by (with_reducible repeat (first | apply Kd.N_alloc | apply Kd.N_drewN | apply Kd.N_drew)); exact HO551.out) (rB ho0) hb) (rL ho0 (bs_ pB)) (blk_below (g := gb508) (o := .cells #[.int .i64 a0_0, .slice A0_1 l0_1.length c0_1, .slice (some ad541) l0_2.length c0_2] 54 (0, 0)) (pK BK508) hb) (blk_below (g := gb542) (o := .cells #[.int .i64 ((rd_T80 l0_2 x45_2).f0), .slice A541_1 ((rd_T80 l0_2 x45_2).f1).length c541_1] 80 (0, 0)) (pK BK542) hb) (bz_ pB hb)
                 clear HO551 BK508 BK542 HB; obtain ⟨HO551, HO554, BK508, BK542, HB⟩ := n_; (try clear hb); (try clear hb2); (try clear hk); (try clear hi); (try clear ho0)
                 refine hK.out _ _ ⟨(blk_cell BK542.out 0).trans rfl, (blk_cell BK542.out 1).trans rfl⟩ (fun hHeld => ?_)
                 clear hK K
                 refine rN ?_
                 refine rP 9 (some 3) #[true, true, true, true, true, true, true, true, true, true] (any_of HT_.out (by kernel_rfl)) ?_
                 refine done_ (done_of HT_.out (by kernel_rfl)) ?_
                 try go_wp2
                 go_roundg k2
                 case measure => have := HK1.out; have := HK2.out; omega
                 case rel => exact ⟨(t552), (wrap64 (x45_2 + 1)), pF, H', ⟨by have := HK1.out; have := HK2.out; omega⟩, ⟨(pR HO554)⟩, ⟨(pK BK508)⟩, ⟨pB⟩⟩
               · rw [if_neg c44] at H
                 exact absurd H (by simp)
             · rw [if_neg c43] at H
               exact absurd H (by simp)
           · rw [if_neg c42] at H
             have c42b0 : decide (x45_2 < (l0_2.length : Int)) = false := decide_eq_false c42
             clear c42
             obtain rfl := sj H
             go_wp2
             go_ret
             exact ⟨_, pE, (pR HO_3), pB⟩
       · rw [if_neg c36] at H
         exact absurd H (by simp)
 · rw [if_neg c4] at H
   exact absurd H (by simp)
end Go.Proofs.Ytjmdfghljlmfmaa.QFnExactHeaderSum
