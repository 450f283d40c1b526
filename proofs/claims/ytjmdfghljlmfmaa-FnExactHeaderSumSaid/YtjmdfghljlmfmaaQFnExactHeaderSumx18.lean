-- written by this session's program (wip/tools/myprint.py)
import Derived.Test.YtjmdfghljlmfmaaQFnExactHeaderSumx0
import Derived.Test.YtjmdfghljlmfmaaQFnExactHeaderSumx13
import Derived.Test.YtjmdfghljlmfmaaQFnExactHeaderSumx16
import Derived.Test.YtjmdfghljlmfmaaQFnExactHeaderSumx17
-- squeezed
namespace Go.Proofs.Ytjmdfghljlmfmaa.QFnExactHeaderSum
open Go.RowKit Go.Proofs.YtjmdfghljlmfmaaW.PrintWords Go.Proofs.YtjmdfghljlmfmaaW.PrintLast Go.Proofs.YtjmdfghljlmfmaaW.PrintMore
attribute [local go_sem] max2_int min2_int max_two min_two max_three min_three max_four min_four   -- for this text's walks alone
set_option linter.unusedVariables false
set_option linter.unusedSimpArgs false
set_option maxHeartbeats 8000000
set_option maxRecDepth 100000
def impl_headerSum.f (k : Nat) (a0_0 : Int) (a0_1 : Int) (a0_2 : Int) (a0_3 : Int) (l0_4 : List (S54)) : Option (Int) := (impl_txSums.f k a0_0 a0_1 a0_2 a0_3 l0_4).bind fun t597 => ((impl_rootOf.f k t597).bind fun t600 => ((impl_sumInts.f k (([a0_0, t600, a0_1, a0_2, a0_3] : List Int))).bind fun t604 => (some t604)))
theorem impl_headerSum.mono : ∀ a0 a1 a2 a3 a4 k, LeO (impl_headerSum.f k a0 a1 a2 a3 a4) (impl_headerSum.f (k + 1) a0 a1 a2 a3 a4) := by
 intro a0 a1 a2 a3 a4 k
 unfold impl_headerSum.f
 repeat' with_reducible first | exact impl_rootOf.mono _ _ | exact impl_sumInts.mono _ _ | exact impl_txSums.mono _ _ _ _ _ _ | exact LeO.refl _ | exact LeO.none _ | refine LeO.ite ?_ ?_ | refine LeO.bind ?_ (fun _ => ?_)
def impl_headerSum.T1 : Bool × List (List Nat × List Nat) := (true, [([], []), ([0], [0]), ([], []), ([2], [2]), ([3, 3], [3]), ([], []), ([5], [5]), ([], []), ([7], [7]), ([], []), ([9], [9]), ([1, 4, 6, 8, 10], [1, 4, 6, 8, 10]), ([11, 4], [11]), ([12, 12, 0, 1, 2, 3, 4, 5, 6, 7, 8, 9, 10, 11, 12], [12])])
def impl_headerSum.B1 : List Nat := [0, 1, 0, 4, 12, 0, 32, 0, 128, 0, 512, 2047, 4095, 8191]
theorem impl_headerSum.tab1 : rtab .any (opsOf Try.f15 1) = impl_headerSum.T1 := by kernel_rfl
theorem impl_headerSum.bits1 : waitsOk impl_headerSum.T1.2 impl_headerSum.B1 = true := by kernel_rfl
theorem impl_headerSum.calls (k : Nat) (a0_0 : Int) (a0_1 : Int) (a0_2 : Int) (a0_3 : Int) (A0_4 : Option Addr) (c0_4 : Nat) (l0_4 : List (S54)) (r : Int) (w : World) (hr0_4 : Kd.C k54 w A0_4 l0_4.length l0_4) (hc0_4 : l0_4.length ≤ c0_4) (h : impl_headerSum.f k a0_0 a0_1 a0_2 a0_3 l0_4 = some r) :
 Calls Try.prog 15 #[.agg #[.int .i64 a0_0, .int .i64 a0_1, .int .i64 a0_2, .int .i64 a0_3, .slice A0_4 l0_4.length c0_4]] w fun e w' => e = .returned (.int .i64 r) ∧ Below w.heap.size w w' := by
 have hu31 := Try.underlying31
 have HR0_4 := am hr0_4; have HC0_4 := am hc0_4; clear hr0_4 hc0_4
 have HB := am (Below.refl w.heap.size w)
 have H : ((impl_txSums.f k a0_0 a0_1 a0_2 a0_3 l0_4).bind fun t597 => ((impl_rootOf.f k t597).bind fun t600 => ((impl_sumInts.f k (([a0_0, t600, a0_1, a0_2, a0_3] : List Int))).bind fun t604 => (some t604)))) = some r := h
 clear h
 obtain ⟨t597, A20, H⟩ := bO H
 replace H : ((impl_rootOf.f k t597).bind fun t600 => ((impl_sumInts.f k (([a0_0, t600, a0_1, a0_2, a0_3] : List Int))).bind fun t604 => (some t604))) = some r := H
 have A2 := am A20; clear A20
 obtain ⟨t600, A30, H⟩ := bO H
 replace H : ((impl_sumInts.f k (([a0_0, t600, a0_1, a0_2, a0_3] : List Int))).bind fun t604 => (some t604)) = some r := H
 have A3 := am A30; clear A30
 obtain ⟨y601, hy601⟩ : ∃ y_ : List Int, y_ = (([a0_0, t600, a0_1, a0_2, a0_3] : List Int)) := ⟨_, rfl⟩
 replace H : ((impl_sumInts.f k y601).bind fun t604 => (some t604)) = some r := by first | (rw [hy601]; with_reducible exact H) | (have H2_ := (Option.bind_some _ _).symm.trans H; rw [hy601]; with_reducible exact H2_) | (have H2_ := (Option.bind_some _ _).symm.trans H; with_reducible exact H2_) | with_reducible exact H | (rw [hy601]; exact H) | exact H
 have Ny601 := am hy601; clear hy601
 obtain ⟨t604, A40, H⟩ := bO H
 replace H : (some t604) = some r := H
 have A4 := am A40; clear A40
 obtain rfl := sj H
 go_enter Try.func15, Try.ntmps15
 try go_wp2_with (first | ((with_reducible refine gate_dst (N := 1) rfl ?_); refine box_event ?hg (N := 1) ?hd (cs := #[.int .i64 a0_0, .int .i64 a0_1, .int .i64 a0_2, .int .i64 a0_3, .slice A0_4 l0_4.length c0_4]) (t := 31) ?hr ?_; (case hd => rfl); (case hg => rfl); (case hr => first | (go_simp; done) | (go_simp; rfl)); intro gb596 hg w5 hbox hb; have n_ := t4 (bz_ pB hb) (hbox) ((by rw [hg]; exact (bs_ pB) : w.heap.size ≤ gb596)) ((by rw [hg]; exact (bs_ pB) : w.heap.size ≤ gb596)); clear HB; obtain ⟨HB, BK596, GW596, GE596⟩ := n_; clear hb hbox hg))
 have n_ := t2 (blk_drew BK596.out) (below_drew1 HB.out)
 clear BK596 HB; obtain ⟨BK596, HB⟩ := n_
 refine start_ (n := 14) (S := fun w' => w'.cell? ⟨gb596, 0, none⟩ = some (.int .i64 a0_0) ∧ w'.cell? ⟨gb596, 1, none⟩ = some (.int .i64 a0_1) ∧ w'.cell? ⟨gb596, 2, none⟩ = some (.int .i64 a0_2) ∧ w'.cell? ⟨gb596, 3, none⟩ = some (.int .i64 a0_3) ∧ w'.cell? ⟨gb596, 4, none⟩ = some (.slice A0_4 l0_4.length c0_4)) (ds := []) #[false, false, false, false, false, false, false, false, false, false, false, false, false, false] (by kernel_rfl) rfl rfl ⟨(blk_cell BK596.out 0).trans rfl, (blk_cell BK596.out 1).trans rfl, (blk_cell BK596.out 2).trans rfl, (blk_cell BK596.out 3).trans rfl, (blk_cell BK596.out 4).trans rfl⟩ (fun hHeld => ?_); refine with_tabW impl_headerSum.tab1 impl_headerSum.bits1 (fun HT_ HW_ => ?_)
 generalize w5.drew = w6 at BK596 HB hHeld ⊢
 refine rP 0 (some 3) #[true, false, false, false, false, false, false, false, false, false, false, false, false, false] (any_of HT_.out (by kernel_rfl)) ?_
 refine rP 5 (some 8) #[true, false, false, false, false, true, false, false, false, false, false, false, false, false] (any_of HT_.out (by kernel_rfl)) ?_
 refine rP 7 (some 10) #[true, false, false, false, false, true, false, true, false, false, false, false, false, false] (any_of HT_.out (by kernel_rfl)) ?_
 refine rP 9 (some 12) #[true, false, false, false, false, true, false, true, false, true, false, false, false, false] (any_of HT_.out (by kernel_rfl)) ?_
 refine rT 1 (some 4) #[true, true, false, false, false, true, false, true, false, true, false, false, false, false] (take_ofW HT_.out HW_.out (by kernel_rfl)) hHeld ?_
 refine rT 2 (some 5) #[true, true, true, false, false, true, false, true, false, true, false, false, false, false] (take_ofW HT_.out HW_.out (by kernel_rfl)) hHeld ?_
 refine rT 6 (some 9) #[true, true, true, false, false, true, true, true, false, true, false, false, false, false] (take_ofW HT_.out HW_.out (by kernel_rfl)) hHeld ?_
 refine rT 8 (some 11) #[true, true, true, false, false, true, true, true, true, true, false, false, false, false] (take_ofW HT_.out HW_.out (by kernel_rfl)) hHeld ?_
 refine rT 10 (some 13) #[true, true, true, false, false, true, true, true, true, true, true, false, false, false] (take_ofW HT_.out HW_.out (by kernel_rfl)) hHeld ?_
 refine one_ (i := 3) (N := some 6) #[true, true, true, true, false, true, true, true, true, true, true, false, false, false] rfl rfl (one_of HT_.out (by kernel_rfl)) (by decide) (fun K hK => ?_)
 refine goes_ Try.func34 (by kernel_rfl) rfl #[.agg #[.int .i64 a0_0, .int .i64 a0_1, .int .i64 a0_2, .int .i64 a0_3, .slice A0_4 l0_4.length c0_4]] (by rfl) rfl rfl pA ?_
 with_reducible refine (impl_txSums.calls k a0_0 a0_1 a0_2 a0_3 _ _ l0_4 t597 _ ?side1 ?side2 A2.out).mono ?_
 (case side1 => exact pC (Kd.C_below HR0_4.out HB.out))
 (case side2 => exact HC0_4.out)
 rintro e w7 ⟨v598, rfl, ho0, hb⟩
 refine ⟨_, rfl, ?_⟩
 have n_ := t3 (rL ho0 (bs_ pB)) (blk_below (g := gb596) (o := .cells #[.int .i64 a0_0, .int .i64 a0_1, .int .i64 a0_2, .int .i64 a0_3, .slice A0_4 l0_4.length c0_4] 31 (0, 0)) (pK BK596) hb) (bz_ pB hb)
 clear BK596 HB; obtain ⟨HO599, BK596, HB⟩ := n_; (try clear hb); (try clear hb2); (try clear hk); (try clear hi); (try clear ho0)
 obtain ⟨Ao8, co8, eo8⟩ := rS HO599.out
 (first | subst eo8 | (injection eo8 with f1_ f2_ f3_; have f4_ := f1_.symm; have f5_ := f3_.symm; clear f1_ f2_ f3_; subst f4_; subst f5_))
 refine hK.out _ _ ⟨(blk_cell BK596.out 0).trans rfl, (blk_cell BK596.out 1).trans rfl, (blk_cell BK596.out 2).trans rfl, (blk_cell BK596.out 3).trans rfl, (blk_cell BK596.out 4).trans rfl⟩ (fun hHeld => ?_)
 clear hK K
 refine rN ?_
 refine one_ (i := 4) (N := some 7) #[true, true, true, true, true, true, true, true, true, true, true, false, false, false] rfl rfl (one_of HT_.out (by kernel_rfl)) (by decide) (fun K hK => ?_)
 refine goes_ Try.func36 (by kernel_rfl) rfl #[.slice Ao8 t597.length co8] (by rfl) rfl rfl pA ?_
 with_reducible refine (impl_rootOf.calls k (fun k_ => some k_ = (.slice Ao8 t597.length co8 : Value).ownBlock) _ _ t597 t600 _ ?side1 A3.out).mono ?_
 (case side1 => exact Kd.R_V (Kd.R_tight rfl (Kd.R_types (HO599.out) BK596.out (by decide))))
 rintro e w9 ⟨rfl, hb⟩
 refine ⟨_, rfl, ?_⟩
 have n_ := t3 (Kd.R_below (pR HO599) hb) (blk_below (g := gb596) (o := .cells #[.int .i64 a0_0, .int .i64 a0_1, .int .i64 a0_2, .int .i64 a0_3, .slice A0_4 l0_4.length c0_4] 31 (0, 0)) (pK BK596) hb) (bz_ pB hb)
 clear HO599 BK596 HB; obtain ⟨HO599, BK596, HB⟩ := n_; (try clear hb); (try clear hb2); (try clear hk); (try clear hi)
 refine hK.out _ _ ⟨(blk_cell BK596.out 0).trans rfl, (blk_cell BK596.out 1).trans rfl, (blk_cell BK596.out 2).trans rfl, (blk_cell BK596.out 3).trans rfl, (blk_cell BK596.out 4).trans rfl⟩ (fun hHeld => ?_)
 clear hK K
 refine rN ?_
 refine one_ (i := 11) (N := some 14) #[true, true, true, true, true, true, true, true, true, true, true, true, false, false] rfl rfl (one_of HT_.out (by kernel_rfl)) (by decide) (fun K hK => ?_)
 refine Kd.R_lit_step (Kd.int .i64) _ 2 ?hg (N := 14) ?hd (xs := ([a0_0, t600, a0_1, a0_2, a0_3] : List Int)) (inner := [.int .i64 a0_0, .int .i64 t600, .int .i64 a0_1, .int .i64 a0_2, .int .i64 a0_3]) (ok := fun _ => True) (okp := fun _ => True) ?hr ?hp (fun _ hk => hk) trivial (Below.refl _ _) (Nat.le_refl _) (by simp) ?_; (case hd => rfl); (case hg => rfl); (case hr => first | (go_simp; done) | (go_simp; rfl)); (case hp => exact (Reps.one (show Kd.M (Kd.int .i64) _ _ _ a0_0 [.int .i64 a0_0] from rfl) (Reps.one (show Kd.M (Kd.int .i64) _ _ _ t600 [.int .i64 t600] from rfl) (Reps.one (show Kd.M (Kd.int .i64) _ _ _ a0_1 [.int .i64 a0_1] from rfl) (Reps.one (show Kd.M (Kd.int .i64) _ _ _ a0_2 [.int .i64 a0_2] from rfl) (Reps.one (show Kd.M (Kd.int .i64) _ _ _ a0_3 [.int .i64 a0_3] from rfl) (Reps.none _ _)))))))
 intro v602 w10 ho11 hb hg_ hnew_
 clear hg_ hnew_
 (first | rw [← Ny601.out] at ho11 | (simp only [Int.reduceToNat] at ho11; rw [← Ny601.out] at ho11))
 have n_ := t4 (rE (pR HO599) (rB ho11) hb) (rL (rW ho11 (Kd.R_lt (pR HO599))) (bs_ pB)) (blk_below (g := gb596) (o := .cells #[.int .i64 a0_0, .int .i64 a0_1, .int .i64 a0_2, .int .i64 a0_3, .slice A0_4 l0_4.length c0_4] 31 (0, 0)) (pK BK596) hb) (bz_ pB hb)
 clear HO599 BK596 HB; obtain ⟨HO599, HO603, BK596, HB⟩ := n_; clear hb ho11
 obtain ⟨Ao12, co12, eo12⟩ := rS HO603.out
 (first | subst eo12 | (injection eo12 with f1_ f2_ f3_; have f4_ := f1_.symm; have f5_ := f3_.symm; clear f1_ f2_ f3_; subst f4_; subst f5_))
 refine hK.out _ _ ⟨(blk_cell BK596.out 0).trans rfl, (blk_cell BK596.out 1).trans rfl, (blk_cell BK596.out 2).trans rfl, (blk_cell BK596.out 3).trans rfl, (blk_cell BK596.out 4).trans rfl⟩ (fun hHeld => ?_)
 clear hK K
 refine rN ?_
 refine one_ (i := 12) (N := some 15) #[true, true, true, true, true, true, true, true, true, true, true, true, true, false] rfl rfl (one_of HT_.out (by kernel_rfl)) (by decide) (fun K hK => ?_)
 refine goes_ Try.func35 (by kernel_rfl) rfl #[.slice Ao12 y601.length co12] (by rfl) rfl rfl pA ?_
 with_reducible refine (impl_sumInts.calls k _ _ y601 t604 _ ?side1 ?side2 A4.out).mono ?_
 (case side1 => exact pC (rr HO603.out).2.2)
 (case side2 => exact (rr HO603.out).2.1)
 rintro e w13 ⟨rfl, hb⟩
 refine ⟨_, rfl, ?_⟩
 have n_ := t4 (Kd.R_below (pR HO599) hb) (Kd.R_below (pR HO603) hb) (blk_below (g := gb596) (o := .cells #[.int .i64 a0_0, .int .i64 a0_1, .int .i64 a0_2, .int .i64 a0_3, .slice A0_4 l0_4.length c0_4] 31 (0, 0)) (pK BK596) hb) (bz_ pB hb)
 clear HO599 HO603 BK596 HB; obtain ⟨HO599, HO603, BK596, HB⟩ := n_; (try clear hb); (try clear hb2); (try clear hk); (try clear hi)
 refine hK.out _ _ ⟨(blk_cell BK596.out 0).trans rfl, (blk_cell BK596.out 1).trans rfl, (blk_cell BK596.out 2).trans rfl, (blk_cell BK596.out 3).trans rfl, (blk_cell BK596.out 4).trans rfl⟩ (fun hHeld => ?_)
 clear hK K
 refine rN ?_
 refine rP 13 (some 2) #[true, true, true, true, true, true, true, true, true, true, true, true, true, true] (any_of HT_.out (by kernel_rfl)) ?_
 refine done_ (done_of HT_.out (by kernel_rfl)) ?_
 try go_wp2
 go_ret
 exact ⟨pE, pB⟩
def impl_HeaderSum.f (k : Nat) (a0_0 : Int) (a0_1 : Int) (a0_2 : Int) (a0_3 : Int) (l0_4 : List (S54)) : Option (Int × Int) := (impl_BlockFault.f k a0_0 a0_1 a0_2 a0_3 l0_4).bind fun t607 => (if t607 = 0 then ((impl_headerSum.f k a0_0 a0_1 a0_2 a0_3 l0_4).bind fun t608 => (some (0, t608))) else (some (t607, 0)))
theorem impl_HeaderSum.mono : ∀ a0 a1 a2 a3 a4 k, LeO (impl_HeaderSum.f k a0 a1 a2 a3 a4) (impl_HeaderSum.f (k + 1) a0 a1 a2 a3 a4) := by
 intro a0 a1 a2 a3 a4 k
 unfold impl_HeaderSum.f
 repeat' with_reducible first | exact impl_BlockFault.mono _ _ _ _ _ _ | exact impl_headerSum.mono _ _ _ _ _ _ | exact LeO.refl _ | exact LeO.none _ | refine LeO.ite ?_ ?_ | refine LeO.bind ?_ (fun _ => ?_)
theorem impl_HeaderSum.calls (k : Nat) (a0_0 : Int) (a0_1 : Int) (a0_2 : Int) (a0_3 : Int) (A0_4 : Option Addr) (c0_4 : Nat) (l0_4 : List (S54)) (r1 : Int) (r2 : Int) (w : World) (hr0_4 : Kd.C k54 w A0_4 l0_4.length l0_4) (hc0_4 : l0_4.length ≤ c0_4) (h : impl_HeaderSum.f k a0_0 a0_1 a0_2 a0_3 l0_4 = some (r1, r2)) :
 Calls Try.prog 7 #[.agg #[.int .i64 a0_0, .int .i64 a0_1, .int .i64 a0_2, .int .i64 a0_3, .slice A0_4 l0_4.length c0_4]] w fun e w' => e = .returned (.agg #[.int .i64 r1, .int .i64 r2]) ∧ Below w.heap.size w w' := by
 have hu31 := Try.underlying31
 have hu27 := Try.underlying27
 have HR0_4 := am hr0_4; have HC0_4 := am hc0_4; clear hr0_4 hc0_4
 have HB := am (Below.refl w.heap.size w)
 have H : ((impl_BlockFault.f k a0_0 a0_1 a0_2 a0_3 l0_4).bind fun t607 => (if t607 = 0 then ((impl_headerSum.f k a0_0 a0_1 a0_2 a0_3 l0_4).bind fun t608 => (some (0, t608))) else (some (t607, 0)))) = some (r1, r2) := h
 clear h
 obtain ⟨t607, A20, H⟩ := bO H
 replace H : (if t607 = 0 then ((impl_headerSum.f k a0_0 a0_1 a0_2 a0_3 l0_4).bind fun t608 => (some (0, t608))) else (some (t607, 0))) = some (r1, r2) := H
 have A2 := am A20; clear A20
 by_cases c3 : t607 = 0
 · rw [if_pos c3] at H
   have c3b0 : (t607 == 0) = true := beq_iff_eq.mpr c3
   have c3b1 : (t607 != 0) = false := bne_eq_false_iff_eq.mpr c3
   clear c3
   obtain ⟨t608, A40, H⟩ := bO H
   replace H : (some (0, t608)) = some (r1, r2) := H
   have A4 := am A40; clear A40
   simp only [Option.some.injEq, Prod.mk.injEq] at H
   obtain ⟨rfl, rfl⟩ := H
   go_enter Try.func7, Try.ntmps7
   go_wp2_with (first | ((with_reducible refine gate_dst (N := 1) rfl ?_); refine box_event ?hg (N := 1) ?hd (cs := #[.int .i64 a0_0, .int .i64 a0_1, .int .i64 a0_2, .int .i64 a0_3, .slice A0_4 l0_4.length c0_4]) (t := 31) ?hr ?_; (case hd => rfl); (case hg => rfl); (case hr => first | (go_simp; done) | (go_simp; rfl)); intro gb605 hg w5 hbox hb; have n_ := t4 (bz_ pB hb) (hbox) ((by rw [hg]; exact (bs_ pB) : w.heap.size ≤ gb605)) ((by rw [hg]; exact (bs_ pB) : w.heap.size ≤ gb605)); clear HB; obtain ⟨HB, BK605, GW605, GE605⟩ := n_; clear hb hbox hg) | ((with_reducible refine gate_dst (N := 2) rfl ?_); refine box_event ?hg (N := 2) ?hd (cs := #[.int .i64 0, .int .i64 0]) (t := 27) ?hr ?_; (case hd => rfl); (case hg => rfl); (case hr => first | (go_simp; done) | (go_simp; rfl)); intro gb606 hg w6 hbox hb; have n_ := t7 (blk_below (g := gb605) (o := .cells #[.int .i64 a0_0, .int .i64 a0_1, .int .i64 a0_2, .int .i64 a0_3, .slice A0_4 l0_4.length c0_4] 31 (0, 0)) (pK BK605) hb) (bz_ pB hb) (hbox) ((by rw [hg]; exact (bs_ pB) : w.heap.size ≤ gb606)) ((by rw [hg]; exact (bs_ pB) : w.heap.size ≤ gb606)) ((by rw [hg]; exact Nat.ne_of_lt (blk_lt (g := gb605) (o := .cells #[.int .i64 a0_0, .int .i64 a0_1, .int .i64 a0_2, .int .i64 a0_3, .slice A0_4 l0_4.length c0_4] 31 (0, 0)) (pK BK605)) : gb605 ≠ gb606)) ((by rw [hg]; exact Nat.ne_of_gt (blk_lt (g := gb605) (o := .cells #[.int .i64 a0_0, .int .i64 a0_1, .int .i64 a0_2, .int .i64 a0_3, .slice A0_4 l0_4.length c0_4] 31 (0, 0)) (pK BK605)) : gb606 ≠ gb605)); clear BK605 HB; obtain ⟨BK605, HB, BK606, GW606, GE606, NB605_606, NB606_605⟩ := n_; clear hb hbox hg; have hnb7 := NB605_606.out; have hnc7 := NB606_605.out; have hcz8_0 : w6.cell? ⟨gb605, 0, none⟩ = some (.int .i64 a0_0) := (blk_cell BK605.out 0).trans rfl; have hcz8_1 : w6.cell? ⟨gb605, 1, none⟩ = some (.int .i64 a0_1) := (blk_cell BK605.out 1).trans rfl; have hcz8_2 : w6.cell? ⟨gb605, 2, none⟩ = some (.int .i64 a0_2) := (blk_cell BK605.out 2).trans rfl; have hcz8_3 : w6.cell? ⟨gb605, 3, none⟩ = some (.int .i64 a0_3) := (blk_cell BK605.out 3).trans rfl; have hcz8_4 : w6.cell? ⟨gb605, 4, none⟩ = some (.slice A0_4 l0_4.length c0_4) := (blk_cell BK605.out 4).trans rfl; have hfz8_0 := blk_frozen BK605.out 0; have hfz8_1 := blk_frozen BK605.out 1; have hfz8_2 := blk_frozen BK605.out 2; have hfz8_3 := blk_frozen BK605.out 3; have hfz8_4 := blk_frozen BK605.out 4) | ((with_reducible refine gC (f := 14) rfl ?_); refine goesL_ (some 5) rfl rfl Try.func14 (by kernel_rfl) rfl #[.agg #[.int .i64 a0_0, .int .i64 a0_1, .int .i64 a0_2, .int .i64 a0_3, .slice A0_4 l0_4.length c0_4]] rfl pA ?_; (with_reducible refine (impl_BlockFault.calls k a0_0 a0_1 a0_2 a0_3 _ _ l0_4 t607 _ ?side1 ?side2 A2.out).mono ?_); (case side1 => exact pC (Kd.C_below HR0_4.out HB.out)); (case side2 => exact HC0_4.out); rintro e w9 ⟨rfl, hb⟩; refine ⟨_, rfl, ?_⟩; have n_ := t3 (blk_below (g := gb605) (o := .cells #[.int .i64 a0_0, .int .i64 a0_1, .int .i64 a0_2, .int .i64 a0_3, .slice A0_4 l0_4.length c0_4] 31 (0, 0)) (pK BK605) hb) (blk_below (g := gb606) (o := .cells #[.int .i64 0, .int .i64 0] 27 (0, 0)) (pK BK606) hb) (bz_ pB hb); clear BK605 BK606 HB; obtain ⟨BK605, BK606, HB⟩ := n_; (try clear hb); have hcz10_0 : w9.cell? ⟨gb605, 0, none⟩ = some (.int .i64 a0_0) := (blk_cell BK605.out 0).trans rfl; have hcz10_1 : w9.cell? ⟨gb605, 1, none⟩ = some (.int .i64 a0_1) := (blk_cell BK605.out 1).trans rfl; have hcz10_2 : w9.cell? ⟨gb605, 2, none⟩ = some (.int .i64 a0_2) := (blk_cell BK605.out 2).trans rfl; have hcz10_3 : w9.cell? ⟨gb605, 3, none⟩ = some (.int .i64 a0_3) := (blk_cell BK605.out 3).trans rfl; have hcz10_4 : w9.cell? ⟨gb605, 4, none⟩ = some (.slice A0_4 l0_4.length c0_4) := (blk_cell BK605.out 4).trans rfl; have hfz10_0 := blk_frozen BK605.out 0; have hfz10_1 := blk_frozen BK605.out 1; have hfz10_2 := blk_frozen BK605.out 2; have hfz10_3 := blk_frozen BK605.out 3; have hfz10_4 := blk_frozen BK605.out 4) | ((with_reducible refine gC (f := 15) rfl ?_); refine goesL_ (some 11) rfl rfl Try.func15 (by kernel_rfl) rfl #[.agg #[.int .i64 a0_0, .int .i64 a0_1, .int .i64 a0_2, .int .i64 a0_3, .slice A0_4 l0_4.length c0_4]] rfl pA ?_; (with_reducible refine (impl_headerSum.calls k a0_0 a0_1 a0_2 a0_3 _ _ l0_4 t608 _ ?side1 ?side2 A4.out).mono ?_); (case side1 => exact pC (Kd.C_below HR0_4.out HB.out)); (case side2 => exact HC0_4.out); rintro e w11 ⟨rfl, hb⟩; refine ⟨_, rfl, ?_⟩; have n_ := t3 (blk_below (g := gb605) (o := .cells #[.int .i64 a0_0, .int .i64 a0_1, .int .i64 a0_2, .int .i64 a0_3, .slice A0_4 l0_4.length c0_4] 31 (0, 0)) (pK BK605) hb) (blk_below (g := gb606) (o := .cells #[.int .i64 0, .int .i64 0] 27 (0, 0)) (pK BK606) hb) (bz_ pB hb); clear BK605 BK606 HB; obtain ⟨BK605, BK606, HB⟩ := n_; (try clear hb); have hcz12_0 : w11.cell? ⟨gb606, 0, none⟩ = some (.int .i64 0) := (blk_cell BK606.out 0).trans rfl; have hcz12_1 : w11.cell? ⟨gb606, 1, none⟩ = some (.int .i64 0) := (blk_cell BK606.out 1).trans rfl; have hfz12_0 := blk_frozen BK606.out 0; have hfz12_1 := blk_frozen BK606.out 1))
   refine bodyPost_ret (results_cell_row rfl _ _ gb606 27 #[.int .i64 0, .int .i64 t608] (0, 0) _ rfl (by (with_reducible repeat (first | refine blk_drewN ?_ _ | refine blk_drew ?_ | refine blk_alloc ?_ _)); refine blk_put (cs := #[.int .i64 0, .int .i64 0]) ?_ 1 _ rfl; (with_reducible repeat (first | refine blk_drewN ?_ _ | refine blk_drew ?_ | refine blk_alloc ?_ _)); refine blk_put (cs := #[.int .i64 0, .int .i64 0]) ?_ 0 _ rfl; (with_reducible repeat (first | refine blk_drewN ?_ _ | refine blk_drew ?_ | refine blk_alloc ?_ _)); exact BK606.out) Try.underlying27 rfl (by kernel_rfl)) rfl ?_
   exact ⟨pE, pB⟩
 · rw [if_neg c3] at H
   have c3b0 : (t607 == 0) = false := beq_eq_false_iff_ne.mpr c3
   have c3b1 : (t607 != 0) = true := bne_iff_ne.mpr c3
   simp only [Option.some.injEq, Prod.mk.injEq] at H
   obtain ⟨rfl, rfl⟩ := H
   go_enter Try.func7, Try.ntmps7
   go_wp2_with (first | ((with_reducible refine gate_dst (N := 1) rfl ?_); refine box_event ?hg (N := 1) ?hd (cs := #[.int .i64 a0_0, .int .i64 a0_1, .int .i64 a0_2, .int .i64 a0_3, .slice A0_4 l0_4.length c0_4]) (t := 31) ?hr ?_; (case hd => rfl); (case hg => rfl); (case hr => first | (go_simp; done) | (go_simp; rfl)); intro gb605 hg w13 hbox hb; have n_ := t4 (bz_ pB hb) (hbox) ((by rw [hg]; exact (bs_ pB) : w.heap.size ≤ gb605)) ((by rw [hg]; exact (bs_ pB) : w.heap.size ≤ gb605)); clear HB; obtain ⟨HB, BK605, GW605, GE605⟩ := n_; clear hb hbox hg) | ((with_reducible refine gate_dst (N := 2) rfl ?_); refine box_event ?hg (N := 2) ?hd (cs := #[.int .i64 0, .int .i64 0]) (t := 27) ?hr ?_; (case hd => rfl); (case hg => rfl); (case hr => first | (go_simp; done) | (go_simp; rfl)); intro gb606 hg w14 hbox hb; have n_ := t7 (blk_below (g := gb605) (o := .cells #[.int .i64 a0_0, .int .i64 a0_1, .int .i64 a0_2, .int .i64 a0_3, .slice A0_4 l0_4.length c0_4] 31 (0, 0)) (pK BK605) hb) (bz_ pB hb) (hbox) ((by rw [hg]; exact (bs_ pB) : w.heap.size ≤ gb606)) ((by rw [hg]; exact (bs_ pB) : w.heap.size ≤ gb606)) ((by rw [hg]; exact Nat.ne_of_lt (blk_lt (g := gb605) (o := .cells #[.int .i64 a0_0, .int .i64 a0_1, .int .i64 a0_2, .int .i64 a0_3, .slice A0_4 l0_4.length c0_4] 31 (0, 0)) (pK BK605)) : gb605 ≠ gb606)) ((by rw [hg]; exact Nat.ne_of_gt (blk_lt (g := gb605) (o := .cells #[.int .i64 a0_0, .int .i64 a0_1, .int .i64 a0_2, .int .i64 a0_3, .slice A0_4 l0_4.length c0_4] 31 (0, 0)) (pK BK605)) : gb606 ≠ gb605)); clear BK605 HB; obtain ⟨BK605, HB, BK606, GW606, GE606, NB605_606, NB606_605⟩ := n_; clear hb hbox hg; have hnb15 := NB605_606.out; have hnc15 := NB606_605.out; have hcz16_0 : w14.cell? ⟨gb605, 0, none⟩ = some (.int .i64 a0_0) := (blk_cell BK605.out 0).trans rfl; have hcz16_1 : w14.cell? ⟨gb605, 1, none⟩ = some (.int .i64 a0_1) := (blk_cell BK605.out 1).trans rfl; have hcz16_2 : w14.cell? ⟨gb605, 2, none⟩ = some (.int .i64 a0_2) := (blk_cell BK605.out 2).trans rfl; have hcz16_3 : w14.cell? ⟨gb605, 3, none⟩ = some (.int .i64 a0_3) := (blk_cell BK605.out 3).trans rfl; have hcz16_4 : w14.cell? ⟨gb605, 4, none⟩ = some (.slice A0_4 l0_4.length c0_4) := (blk_cell BK605.out 4).trans rfl; have hfz16_0 := blk_frozen BK605.out 0; have hfz16_1 := blk_frozen BK605.out 1; have hfz16_2 := blk_frozen BK605.out 2; have hfz16_3 := blk_frozen BK605.out 3; have hfz16_4 := blk_frozen BK605.out 4) | ((with_reducible refine gC (f := 14) rfl ?_); refine goesL_ (some 5) rfl rfl Try.func14 (by kernel_rfl) rfl #[.agg #[.int .i64 a0_0, .int .i64 a0_1, .int .i64 a0_2, .int .i64 a0_3, .slice A0_4 l0_4.length c0_4]] rfl pA ?_; (with_reducible refine (impl_BlockFault.calls k a0_0 a0_1 a0_2 a0_3 _ _ l0_4 t607 _ ?side1 ?side2 A2.out).mono ?_); (case side1 => exact pC (Kd.C_below HR0_4.out HB.out)); (case side2 => exact HC0_4.out); rintro e w17 ⟨rfl, hb⟩; refine ⟨_, rfl, ?_⟩; have n_ := t3 (blk_below (g := gb605) (o := .cells #[.int .i64 a0_0, .int .i64 a0_1, .int .i64 a0_2, .int .i64 a0_3, .slice A0_4 l0_4.length c0_4] 31 (0, 0)) (pK BK605) hb) (blk_below (g := gb606) (o := .cells #[.int .i64 0, .int .i64 0] 27 (0, 0)) (pK BK606) hb) (bz_ pB hb); clear BK605 BK606 HB; obtain ⟨BK605, BK606, HB⟩ := n_; (try clear hb); have hcz18_0 : w17.cell? ⟨gb606, 0, none⟩ = some (.int .i64 0) := (blk_cell BK606.out 0).trans rfl; have hcz18_1 : w17.cell? ⟨gb606, 1, none⟩ = some (.int .i64 0) := (blk_cell BK606.out 1).trans rfl; have hfz18_0 := blk_frozen BK606.out 0; have hfz18_1 := blk_frozen BK606.out 1))
   refine bodyPost_ret (results_cell_row rfl _ _ gb606 27 #[.int .i64 t607, .int .i64 0] (0, 0) _ rfl (by (with_reducible repeat (first | refine blk_drewN ?_ _ | refine blk_drew ?_ | refine blk_alloc ?_ _)); refine blk_put (cs := #[.int .i64 t607, .int .i64 0]) ?_ 1 _ rfl; (with_reducible repeat (first | refine blk_drewN ?_ _ | refine blk_drew ?_ | refine blk_alloc ?_ _)); refine blk_put (cs := #[.int .i64 0, .int .i64 0]) ?_ 0 _ rfl; (with_reducible repeat (first | refine blk_drewN ?_ _ | refine blk_drew ?_ | refine blk_alloc ?_ _)); exact BK606.out) Try.underlying27 rfl (by kernel_rfl)) rfl ?_
   exact ⟨pE, pB⟩
def laws_eqIntResult.f (a0_0 : Int) (a0_1 : Int) (a1_0 : Int) (a1_1 : Int) : Option (Bool) := if a0_0 = a1_0 then (if a0_1 = a1_1 then (some true) else (some false)) else (some false)
theorem laws_eqIntResult.calls (a0_0 : Int) (a0_1 : Int) (a1_0 : Int) (a1_1 : Int) (r : Bool) (w : World) (h : laws_eqIntResult.f a0_0 a0_1 a1_0 a1_1 = some r) :
 Calls Try.prog 8 #[.agg #[.int .i64 a0_0, .int .i64 a0_1], .agg #[.int .i64 a1_0, .int .i64 a1_1]] w fun e w' => e = .returned (.bool r) ∧ Below w.heap.size w w' := by
 have hu27 := Try.underlying27
 have HB := am (Below.refl w.heap.size w)
 have H : (if a0_0 = a1_0 then (if a0_1 = a1_1 then (some true) else (some false)) else (some false)) = some r := h
 clear h
 by_cases c3 : a0_0 = a1_0
 · rw [if_pos c3] at H
   have c3b0 : (a0_0 == a1_0) = true := beq_iff_eq.mpr c3
   have c3b1 : (a0_0 != a1_0) = false := bne_eq_false_iff_eq.mpr c3
   clear c3
   by_cases c4 : a0_1 = a1_1
   · rw [if_pos c4] at H
     have c4b0 : (a0_1 == a1_1) = true := beq_iff_eq.mpr c4
     have c4b1 : (a0_1 != a1_1) = false := bne_eq_false_iff_eq.mpr c4
     clear c4
     obtain rfl := sj H
     go_enter Try.func8, Try.ntmps8
     go_wp2_with (first | ((with_reducible refine gate_dst (N := 2) rfl ?_); refine box_event ?hg (N := 2) ?hd (cs := #[.int .i64 a0_0, .int .i64 a0_1]) (t := 27) ?hr ?_; (case hd => rfl); (case hg => rfl); (case hr => first | (go_simp; done) | (go_simp; rfl)); intro gb609 hg w5 hbox hb; have n_ := t4 (bz_ pB hb) (hbox) ((by rw [hg]; exact (bs_ pB) : w.heap.size ≤ gb609)) ((by rw [hg]; exact (bs_ pB) : w.heap.size ≤ gb609)); clear HB; obtain ⟨HB, BK609, GW609, GE609⟩ := n_; clear hb hbox hg) | ((with_reducible refine gate_dst (N := 3) rfl ?_); refine box_event ?hg (N := 3) ?hd (cs := #[.int .i64 a1_0, .int .i64 a1_1]) (t := 27) ?hr ?_; (case hd => rfl); (case hg => rfl); (case hr => first | (go_simp; done) | (go_simp; rfl)); intro gb610 hg w6 hbox hb; have n_ := t7 (blk_below (g := gb609) (o := .cells #[.int .i64 a0_0, .int .i64 a0_1] 27 (0, 0)) (pK BK609) hb) (bz_ pB hb) (hbox) ((by rw [hg]; exact (bs_ pB) : w.heap.size ≤ gb610)) ((by rw [hg]; exact (bs_ pB) : w.heap.size ≤ gb610)) ((by rw [hg]; exact Nat.ne_of_lt (blk_lt (g := gb609) (o := .cells #[.int .i64 a0_0, .int .i64 a0_1] 27 (0, 0)) (pK BK609)) : gb609 ≠ gb610)) ((by rw [hg]; exact Nat.ne_of_gt (blk_lt (g := gb609) (o := .cells #[.int .i64 a0_0, .int .i64 a0_1] 27 (0, 0)) (pK BK609)) : gb610 ≠ gb609)); clear BK609 HB; obtain ⟨BK609, HB, BK610, GW610, GE610, NB609_610, NB610_609⟩ := n_; clear hb hbox hg; have hnb7 := NB609_610.out; have hnc7 := NB610_609.out; have hcz8_0 : w6.cell? ⟨gb609, 0, none⟩ = some (.int .i64 a0_0) := (blk_cell BK609.out 0).trans rfl; have hcz8_1 : w6.cell? ⟨gb609, 1, none⟩ = some (.int .i64 a0_1) := (blk_cell BK609.out 1).trans rfl; have hfz8_0 := blk_frozen BK609.out 0; have hfz8_1 := blk_frozen BK609.out 1; have hcz9_0 : w6.cell? ⟨gb610, 0, none⟩ = some (.int .i64 a1_0) := (blk_cell BK610.out 0).trans rfl; have hcz9_1 : w6.cell? ⟨gb610, 1, none⟩ = some (.int .i64 a1_1) := (blk_cell BK610.out 1).trans rfl; have hfz9_0 := blk_frozen BK610.out 0; have hfz9_1 := blk_frozen BK610.out 1))
     go_ret
     exact ⟨pE, pB⟩
   · rw [if_neg c4] at H
     have c4b0 : (a0_1 == a1_1) = false := beq_eq_false_iff_ne.mpr c4
     have c4b1 : (a0_1 != a1_1) = true := bne_iff_ne.mpr c4
     obtain rfl := sj H
     go_enter Try.func8, Try.ntmps8
     go_wp2_with (first | ((with_reducible refine gate_dst (N := 2) rfl ?_); refine box_event ?hg (N := 2) ?hd (cs := #[.int .i64 a0_0, .int .i64 a0_1]) (t := 27) ?hr ?_; (case hd => rfl); (case hg => rfl); (case hr => first | (go_simp; done) | (go_simp; rfl)); intro gb609 hg w10 hbox hb; have n_ := t4 (bz_ pB hb) (hbox) ((by rw [hg]; exact (bs_ pB) : w.heap.size ≤ gb609)) ((by rw [hg]; exact (bs_ pB) : w.heap.size ≤ gb609)); clear HB; obtain ⟨HB, BK609, GW609, GE609⟩ := n_; clear hb hbox hg) | ((with_reducible refine gate_dst (N := 3) rfl ?_); refine box_event ?hg (N := 3) ?hd (cs := #[.int .i64 a1_0, .int .i64 a1_1]) (t := 27) ?hr ?_; (case hd => rfl); (case hg => rfl); (case hr => first | (go_simp; done) | (go_simp; rfl)); intro gb610 hg w11 hbox hb; have n_ := t7 (blk_below (g := gb609) (o := .cells #[.int .i64 a0_0, .int .i64 a0_1] 27 (0, 0)) (pK BK609) hb) (bz_ pB hb) (hbox) ((by rw [hg]; exact (bs_ pB) : w.heap.size ≤ gb610)) ((by rw [hg]; exact (bs_ pB) : w.heap.size ≤ gb610)) ((by rw [hg]; exact Nat.ne_of_lt (blk_lt (g := gb609) (o := .cells #[.int .i64 a0_0, .int .i64 a0_1] 27 (0, 0)) (pK BK609)) : gb609 ≠ gb610)) ((by rw [hg]; exact Nat.ne_of_gt (blk_lt (g := gb609) (o := .cells #[.int .i64 a0_0, .int .i64 a0_1] 27 (0, 0)) (pK BK609)) : gb610 ≠ gb609)); clear BK609 HB; obtain ⟨BK609, HB, BK610, GW610, GE610, NB609_610, NB610_609⟩ := n_; clear hb hbox hg; have hnb12 := NB609_610.out; have hnc12 := NB610_609.out; have hcz13_0 : w11.cell? ⟨gb609, 0, none⟩ = some (.int .i64 a0_0) := (blk_cell BK609.out 0).trans rfl; have hcz13_1 : w11.cell? ⟨gb609, 1, none⟩ = some (.int .i64 a0_1) := (blk_cell BK609.out 1).trans rfl; have hfz13_0 := blk_frozen BK609.out 0; have hfz13_1 := blk_frozen BK609.out 1; have hcz14_0 : w11.cell? ⟨gb610, 0, none⟩ = some (.int .i64 a1_0) := (blk_cell BK610.out 0).trans rfl; have hcz14_1 : w11.cell? ⟨gb610, 1, none⟩ = some (.int .i64 a1_1) := (blk_cell BK610.out 1).trans rfl; have hfz14_0 := blk_frozen BK610.out 0; have hfz14_1 := blk_frozen BK610.out 1))
     go_ret
     exact ⟨pE, pB⟩
 · rw [if_neg c3] at H
   have c3b0 : (a0_0 == a1_0) = false := beq_eq_false_iff_ne.mpr c3
   have c3b1 : (a0_0 != a1_0) = true := bne_iff_ne.mpr c3
   obtain rfl := sj H
   go_enter Try.func8, Try.ntmps8
   go_wp2_with (first | ((with_reducible refine gate_dst (N := 2) rfl ?_); refine box_event ?hg (N := 2) ?hd (cs := #[.int .i64 a0_0, .int .i64 a0_1]) (t := 27) ?hr ?_; (case hd => rfl); (case hg => rfl); (case hr => first | (go_simp; done) | (go_simp; rfl)); intro gb609 hg w15 hbox hb; have n_ := t4 (bz_ pB hb) (hbox) ((by rw [hg]; exact (bs_ pB) : w.heap.size ≤ gb609)) ((by rw [hg]; exact (bs_ pB) : w.heap.size ≤ gb609)); clear HB; obtain ⟨HB, BK609, GW609, GE609⟩ := n_; clear hb hbox hg) | ((with_reducible refine gate_dst (N := 3) rfl ?_); refine box_event ?hg (N := 3) ?hd (cs := #[.int .i64 a1_0, .int .i64 a1_1]) (t := 27) ?hr ?_; (case hd => rfl); (case hg => rfl); (case hr => first | (go_simp; done) | (go_simp; rfl)); intro gb610 hg w16 hbox hb; have n_ := t7 (blk_below (g := gb609) (o := .cells #[.int .i64 a0_0, .int .i64 a0_1] 27 (0, 0)) (pK BK609) hb) (bz_ pB hb) (hbox) ((by rw [hg]; exact (bs_ pB) : w.heap.size ≤ gb610)) ((by rw [hg]; exact (bs_ pB) : w.heap.size ≤ gb610)) ((by rw [hg]; exact Nat.ne_of_lt (blk_lt (g := gb609) (o := .cells #[.int .i64 a0_0, .int .i64 a0_1] 27 (0, 0)) (pK BK609)) : gb609 ≠ gb610)) ((by rw [hg]; exact Nat.ne_of_gt (blk_lt (g := gb609) (o := .cells #[.int .i64 a0_0, .int .i64 a0_1] 27 (0, 0)) (pK BK609)) : gb610 ≠ gb609)); clear BK609 HB; obtain ⟨BK609, HB, BK610, GW610, GE610, NB609_610, NB610_609⟩ := n_; clear hb hbox hg; have hnb17 := NB609_610.out; have hnc17 := NB610_609.out; have hcz18_0 : w16.cell? ⟨gb609, 0, none⟩ = some (.int .i64 a0_0) := (blk_cell BK609.out 0).trans rfl; have hcz18_1 : w16.cell? ⟨gb609, 1, none⟩ = some (.int .i64 a0_1) := (blk_cell BK609.out 1).trans rfl; have hfz18_0 := blk_frozen BK609.out 0; have hfz18_1 := blk_frozen BK609.out 1; have hcz19_0 : w16.cell? ⟨gb610, 0, none⟩ = some (.int .i64 a1_0) := (blk_cell BK610.out 0).trans rfl; have hcz19_1 : w16.cell? ⟨gb610, 1, none⟩ = some (.int .i64 a1_1) := (blk_cell BK610.out 1).trans rfl; have hfz19_0 := blk_frozen BK610.out 0; have hfz19_1 := blk_frozen BK610.out 1))
   go_ret
   exact ⟨pE, pB⟩
def laws_eqInt64S.l0 : Nat → List Int → List Int → Int → Option (Bool)
 | 0, _, _, _ => none
 | k + 1, x0, x1, x5 => if x5 < (x0.length : Int) then (if 0 ≤ x5 then (if x5 < (x1.length : Int) then (if (rd x0 x5) = (rd x1 x5) then (laws_eqInt64S.l0 k x0 x1 (wrap64 (x5 + 1))) else (some false)) else (none)) else (none)) else (some true)
def laws_eqInt64S.f (k : Nat) (l0 : List Int) (l1 : List Int) : Option (Bool) := if (l0.length : Int) = (l1.length : Int) then (laws_eqInt64S.l0 k l0 l1 0) else (some false)
theorem laws_eqInt64S.mono_l : ∀ k, (∀ y0 y1 y2, LeO (laws_eqInt64S.l0 k y0 y1 y2) (laws_eqInt64S.l0 (k + 1) y0 y1 y2))
 | 0 => fun _ _ _ r h => by simp [laws_eqInt64S.l0] at h
 | k + 1 => by
  have ih0 := laws_eqInt64S.mono_l k
  · intro y0 y1 y2
    unfold laws_eqInt64S.l0
    repeat' with_reducible first | exact ih0 _ _ _ | exact LeO.refl _ | exact LeO.none _ | refine LeO.ite ?_ ?_ | refine LeO.bind ?_ (fun _ => ?_)
theorem laws_eqInt64S.mono : ∀ a0 a1 k, LeO (laws_eqInt64S.f k a0 a1) (laws_eqInt64S.f (k + 1) a0 a1) := by
 intro a0 a1 k
 have ih0 := laws_eqInt64S.mono_l k
 unfold laws_eqInt64S.f
 repeat' with_reducible first | exact ih0 _ _ _ | exact LeO.refl _ | exact LeO.none _ | refine LeO.ite ?_ ?_ | refine LeO.bind ?_ (fun _ => ?_)
theorem laws_eqInt64S.calls (k : Nat) (A0 : Option Addr) (c0 : Nat) (l0 : List Int) (A1 : Option Addr) (c1 : Nat) (l1 : List Int) (r : Bool) (w : World) (hr0 : Kd.C (Kd.int .i64) w A0 l0.length l0) (hc0 : l0.length ≤ c0) (hr1 : Kd.C (Kd.int .i64) w A1 l1.length l1) (hc1 : l1.length ≤ c1) (h : laws_eqInt64S.f k l0 l1 = some r) :
 Calls Try.prog 92 #[.slice A0 l0.length c0, .slice A1 l1.length c1] w fun e w' => e = .returned (.bool r) ∧ Drawn0 w w' := by
 have HR0 := am hr0; have HC0 := am hc0; clear hr0 hc0; have HR1 := am hr1; have HC1 := am hc1; clear hr1 hc1
 have H : (if (l0.length : Int) = (l1.length : Int) then (laws_eqInt64S.l0 k l0 l1 0) else (some false)) = some r := h
 clear h
 by_cases c3 : (l0.length : Int) = (l1.length : Int)
 · rw [if_pos c3] at H
   have c3b0 : ((l0.length : Int) == (l1.length : Int)) = true := beq_iff_eq.mpr c3
   have c3b1 : ((l0.length : Int) != (l1.length : Int)) = false := bne_eq_false_iff_eq.mpr c3
   have c3b2 : (l0.length == l1.length) = true := by first | simpa using c3 | (simp at c3 ⊢; omega)
   clear c3
   have H' := am H
   clear H
   go_enter Try.func92, Try.ntmps92
   go_wp2
   repeat (go_quiet (fail); try go_wp2)
   go_loopg [5] k (fun kq v5 w' => ∃ (x5_1 : Int), v5 = .int .i64 x5_1 ∧ Aside0 (laws_eqInt64S.l0 kq l0 l1 x5_1 = some r) ∧ Aside0 (kq ≤ k) ∧ Drawn0 w w')
   case atStart => exact ⟨(0), pF, H', ⟨Nat.le_refl _⟩, pW⟩
   case round =>
    clear H'
    (try clear c1); (try clear c3); (try clear c3b0); (try clear c3b1); (try clear c3b2)
    obtain ⟨x5_1, rfl, HA, HK1, ⟨m1, rfl⟩⟩ := hrel
    cases gk with
    | zero => exact absurd HA.out (by simp [laws_eqInt64S.l0])
    | succ k1 =>
     have H := HA.out
     clear HA
     simp only [laws_eqInt64S.l0] at H
     by_cases c4 : x5_1 < (l0.length : Int)
     · rw [if_pos c4] at H
       have c4b0 : decide (x5_1 < (l0.length : Int)) = true := dt c4
       clear c4
       by_cases c5 : 0 ≤ x5_1
       · rw [if_pos c5] at H
         have c5b0 : decide (0 ≤ x5_1) = true := dt c5
         clear c5
         by_cases c6 : x5_1 < (l1.length : Int)
         · rw [if_pos c6] at H
           have c6b0 : decide (x5_1 < (l1.length : Int)) = true := dt c6
           clear c6
           by_cases c7 : (rd l0 x5_1) = (rd l1 x5_1)
           · rw [if_pos c7] at H
             have c7b0 : ((rd l0 x5_1) == (rd l1 x5_1)) = true := beq_iff_eq.mpr c7
             have c7b1 : ((rd l0 x5_1) != (rd l1 x5_1)) = false := bne_eq_false_iff_eq.mpr c7
             clear c7
             have H' := am H
             clear H
             have p611 : 0 ≤ (x5_1 : Int) := pD
             have q611 : x5_1 < (l0.length : Int) := pD
             obtain ⟨ad611, e611, hx611_0⟩ := Kd.at_int HR0.out x5_1 p611 q611
             cases e611; replace p611 := eq_true p611; replace q611 := eq_true q611
             have p612 : 0 ≤ (x5_1 : Int) := pD
             have q612 : x5_1 < (l1.length : Int) := pD
             obtain ⟨ad612, e612, hx612_0⟩ := Kd.at_int HR1.out x5_1 p612 q612
             cases e612; replace p612 := eq_true p612; replace q612 := eq_true q612
             go_wp2
             repeat (go_quiet (fail); try go_wp2)
             go_roundg k1
             case measure => have := HK1.out; omega
             case rel => exact ⟨(wrap64 (x5_1 + 1)), pF, H', ⟨by have := HK1.out; omega⟩, pW⟩
           · rw [if_neg c7] at H
             have c7b0 : ((rd l0 x5_1) == (rd l1 x5_1)) = false := beq_eq_false_iff_ne.mpr c7
             have c7b1 : ((rd l0 x5_1) != (rd l1 x5_1)) = true := bne_iff_ne.mpr c7
             obtain rfl := sj H
             have p611 : 0 ≤ (x5_1 : Int) := pD
             have q611 : x5_1 < (l0.length : Int) := pD
             obtain ⟨ad611, e611, hx611_0⟩ := Kd.at_int HR0.out x5_1 p611 q611
             cases e611; replace p611 := eq_true p611; replace q611 := eq_true q611
             have p612 : 0 ≤ (x5_1 : Int) := pD
             have q612 : x5_1 < (l1.length : Int) := pD
             obtain ⟨ad612, e612, hx612_0⟩ := Kd.at_int HR1.out x5_1 p612 q612
             cases e612; replace p612 := eq_true p612; replace q612 := eq_true q612
             go_wp2
             repeat (go_quiet (fail); try go_wp2)
             go_ret
             exact ⟨by first | rfl | (simp; done) | (simp [*]; done), pW⟩
         · rw [if_neg c6] at H
           exact absurd H (by simp)
       · rw [if_neg c5] at H
         exact absurd H (by simp)
     · rw [if_neg c4] at H
       have c4b0 : decide (x5_1 < (l0.length : Int)) = false := decide_eq_false c4
       clear c4
       obtain rfl := sj H
       go_wp2
       repeat (go_quiet (fail); try go_wp2)
       go_ret
       exact ⟨by first | rfl | (simp; done) | (simp [*]; done), pW⟩
 · rw [if_neg c3] at H
   have c3b0 : ((l0.length : Int) == (l1.length : Int)) = false := beq_eq_false_iff_ne.mpr c3
   have c3b1 : ((l0.length : Int) != (l1.length : Int)) = true := bne_iff_ne.mpr c3
   have c3b2 : (l0.length == l1.length) = false := by first | simpa using c3 | (simp at c3 ⊢; omega)
   obtain rfl := sj H
   go_enter Try.func92, Try.ntmps92
   go_wp2
   repeat (go_quiet (fail); try go_wp2)
   go_ret
   exact ⟨by first | rfl | (simp; done) | (simp [*]; done), pW⟩
def laws_eqIn.f (k : Nat) (a0_0 : Int) (a0_1 : Int) (l0_2 : List Int) (a1_0 : Int) (a1_1 : Int) (l1_2 : List Int) : Option (Bool) := if a0_0 = a1_0 then (if a0_1 = a1_1 then ((laws_eqInt64S.f k l0_2 l1_2).bind fun t615 => (if t615 = true then (some true) else (some false))) else (some false)) else (some false)
theorem laws_eqIn.mono : ∀ a0 a1 a2 a3 a4 a5 k, LeO (laws_eqIn.f k a0 a1 a2 a3 a4 a5) (laws_eqIn.f (k + 1) a0 a1 a2 a3 a4 a5) := by
 intro a0 a1 a2 a3 a4 a5 k
 unfold laws_eqIn.f
 repeat' with_reducible first | exact laws_eqInt64S.mono _ _ _ | exact LeO.refl _ | exact LeO.none _ | refine LeO.ite ?_ ?_ | refine LeO.bind ?_ (fun _ => ?_)
theorem laws_eqIn.calls (k : Nat) (a0_0 : Int) (a0_1 : Int) (A0_2 : Option Addr) (c0_2 : Nat) (l0_2 : List Int) (a1_0 : Int) (a1_1 : Int) (A1_2 : Option Addr) (c1_2 : Nat) (l1_2 : List Int) (r : Bool) (w : World) (hr0_2 : Kd.C (Kd.int .i64) w A0_2 l0_2.length l0_2) (hc0_2 : l0_2.length ≤ c0_2) (hr1_2 : Kd.C (Kd.int .i64) w A1_2 l1_2.length l1_2) (hc1_2 : l1_2.length ≤ c1_2) (h : laws_eqIn.f k a0_0 a0_1 l0_2 a1_0 a1_1 l1_2 = some r) :
 Calls Try.prog 77 #[.agg #[.int .i64 a0_0, .int .i64 a0_1, .slice A0_2 l0_2.length c0_2], .agg #[.int .i64 a1_0, .int .i64 a1_1, .slice A1_2 l1_2.length c1_2]] w fun e w' => e = .returned (.bool r) ∧ Below w.heap.size w w' := by
 have hu77 := Try.underlying77
 have HR0_2 := am hr0_2; have HC0_2 := am hc0_2; clear hr0_2 hc0_2; have HR1_2 := am hr1_2; have HC1_2 := am hc1_2; clear hr1_2 hc1_2
 have HB := am (Below.refl w.heap.size w)
 have H : (if a0_0 = a1_0 then (if a0_1 = a1_1 then ((laws_eqInt64S.f k l0_2 l1_2).bind fun t615 => (if t615 = true then (some true) else (some false))) else (some false)) else (some false)) = some r := h
 clear h
 by_cases c3 : a0_0 = a1_0
 · rw [if_pos c3] at H
   have c3b0 : (a0_0 == a1_0) = true := beq_iff_eq.mpr c3
   have c3b1 : (a0_0 != a1_0) = false := bne_eq_false_iff_eq.mpr c3
   clear c3
   by_cases c4 : a0_1 = a1_1
   · rw [if_pos c4] at H
     have c4b0 : (a0_1 == a1_1) = true := beq_iff_eq.mpr c4
     have c4b1 : (a0_1 != a1_1) = false := bne_eq_false_iff_eq.mpr c4
     clear c4
     obtain ⟨t615, A50, H⟩ := bO H
     replace H : (if t615 = true then (some true) else (some false)) = some r := H
     have A5 := am A50; clear A50
     by_cases c6 : t615 = true
     · subst c6
       have H1 : (some true) = some r := by rw [if_pos rfl] at H; exact H
       clear H; have H := H1; clear H1
       obtain rfl := sj H
       go_enter Try.func77, Try.ntmps77
       go_wp2_with (first | ((with_reducible refine gate_dst (N := 2) rfl ?_); refine box_event ?hg (N := 2) ?hd (cs := #[.int .i64 a0_0, .int .i64 a0_1, .slice A0_2 l0_2.length c0_2]) (t := 77) ?hr ?_; (case hd => rfl); (case hg => rfl); (case hr => first | (go_simp; done) | (go_simp; rfl)); intro gb613 hg w7 hbox hb; have n_ := t4 (bz_ pB hb) (hbox) ((by rw [hg]; exact (bs_ pB) : w.heap.size ≤ gb613)) ((by rw [hg]; exact (bs_ pB) : w.heap.size ≤ gb613)); clear HB; obtain ⟨HB, BK613, GW613, GE613⟩ := n_; clear hb hbox hg) | ((with_reducible refine gate_dst (N := 3) rfl ?_); refine box_event ?hg (N := 3) ?hd (cs := #[.int .i64 a1_0, .int .i64 a1_1, .slice A1_2 l1_2.length c1_2]) (t := 77) ?hr ?_; (case hd => rfl); (case hg => rfl); (case hr => first | (go_simp; done) | (go_simp; rfl)); intro gb614 hg w8 hbox hb; have n_ := t7 (blk_below (g := gb613) (o := .cells #[.int .i64 a0_0, .int .i64 a0_1, .slice A0_2 l0_2.length c0_2] 77 (0, 0)) (pK BK613) hb) (bz_ pB hb) (hbox) ((by rw [hg]; exact (bs_ pB) : w.heap.size ≤ gb614)) ((by rw [hg]; exact (bs_ pB) : w.heap.size ≤ gb614)) ((by rw [hg]; exact Nat.ne_of_lt (blk_lt (g := gb613) (o := .cells #[.int .i64 a0_0, .int .i64 a0_1, .slice A0_2 l0_2.length c0_2] 77 (0, 0)) (pK BK613)) : gb613 ≠ gb614)) ((by rw [hg]; exact Nat.ne_of_gt (blk_lt (g := gb613) (o := .cells #[.int .i64 a0_0, .int .i64 a0_1, .slice A0_2 l0_2.length c0_2] 77 (0, 0)) (pK BK613)) : gb614 ≠ gb613)); clear BK613 HB; obtain ⟨BK613, HB, BK614, GW614, GE614, NB613_614, NB614_613⟩ := n_; clear hb hbox hg; have hnb9 := NB613_614.out; have hnc9 := NB614_613.out; have hcz10_0 : w8.cell? ⟨gb613, 0, none⟩ = some (.int .i64 a0_0) := (blk_cell BK613.out 0).trans rfl; have hcz10_1 : w8.cell? ⟨gb613, 1, none⟩ = some (.int .i64 a0_1) := (blk_cell BK613.out 1).trans rfl; have hcz10_2 : w8.cell? ⟨gb613, 2, none⟩ = some (.slice A0_2 l0_2.length c0_2) := (blk_cell BK613.out 2).trans rfl; have hfz10_0 := blk_frozen BK613.out 0; have hfz10_1 := blk_frozen BK613.out 1; have hfz10_2 := blk_frozen BK613.out 2; have hcz11_0 : w8.cell? ⟨gb614, 0, none⟩ = some (.int .i64 a1_0) := (blk_cell BK614.out 0).trans rfl; have hcz11_1 : w8.cell? ⟨gb614, 1, none⟩ = some (.int .i64 a1_1) := (blk_cell BK614.out 1).trans rfl; have hcz11_2 : w8.cell? ⟨gb614, 2, none⟩ = some (.slice A1_2 l1_2.length c1_2) := (blk_cell BK614.out 2).trans rfl; have hfz11_0 := blk_frozen BK614.out 0; have hfz11_1 := blk_frozen BK614.out 1; have hfz11_2 := blk_frozen BK614.out 2) | ((with_reducible refine gC (f := 92) rfl ?_); refine goesL_ (some 19) rfl rfl Try.func92 (by kernel_rfl) rfl #[.slice A0_2 l0_2.length c0_2, .slice A1_2 l1_2.length c1_2] rfl pA ?_; (with_reducible refine (laws_eqInt64S.calls k _ _ l0_2 _ _ l1_2 true _ ?side1 ?side2 ?side3 ?side4 A5.out).mono ?_); (case side1 => exact pC (Kd.C_below HR0_2.out HB.out)); (case side2 => exact HC0_2.out); (case side3 => exact pC (Kd.C_below HR1_2.out HB.out)); (case side4 => exact HC1_2.out); rintro e w' ⟨rfl, ⟨nd, rfl⟩⟩; refine ⟨_, rfl, ?_⟩))
       go_ret
       exact ⟨pE, pB⟩
     · replace c6 := Bool.eq_false_iff.mpr c6
       subst c6
       have H1 : (some false) = some r := by rw [if_neg (show ¬ (false = true) by decide)] at H; exact H
       clear H; have H := H1; clear H1
       obtain rfl := sj H
       go_enter Try.func77, Try.ntmps77
       go_wp2_with (first | ((with_reducible refine gate_dst (N := 2) rfl ?_); refine box_event ?hg (N := 2) ?hd (cs := #[.int .i64 a0_0, .int .i64 a0_1, .slice A0_2 l0_2.length c0_2]) (t := 77) ?hr ?_; (case hd => rfl); (case hg => rfl); (case hr => first | (go_simp; done) | (go_simp; rfl)); intro gb613 hg w12 hbox hb; have n_ := t4 (bz_ pB hb) (hbox) ((by rw [hg]; exact (bs_ pB) : w.heap.size ≤ gb613)) ((by rw [hg]; exact (bs_ pB) : w.heap.size ≤ gb613)); clear HB; obtain ⟨HB, BK613, GW613, GE613⟩ := n_; clear hb hbox hg) | ((with_reducible refine gate_dst (N := 3) rfl ?_); refine box_event ?hg (N := 3) ?hd (cs := #[.int .i64 a1_0, .int .i64 a1_1, .slice A1_2 l1_2.length c1_2]) (t := 77) ?hr ?_; (case hd => rfl); (case hg => rfl); (case hr => first | (go_simp; done) | (go_simp; rfl)); intro gb614 hg w13 hbox hb; have n_ := t7 (blk_below (g := gb613) (o := .cells #[.int .i64 a0_0, .int .i64 a0_1, .slice A0_2 l0_2.length c0_2] 77 (0, 0)) (pK BK613) hb) (bz_ pB hb) (hbox) ((by rw [hg]; exact (bs_ pB) : w.heap.size ≤ gb614)) ((by rw [hg]; exact (bs_ pB) : w.heap.size ≤ gb614)) ((by rw [hg]; exact Nat.ne_of_lt (blk_lt (g := gb613) (o := .cells #[.int .i64 a0_0, .int .i64 a0_1, .slice A0_2 l0_2.length c0_2] 77 (0, 0)) (pK BK613)) : gb613 ≠ gb614)) ((by rw [hg]; exact Nat.ne_of_gt (blk_lt (g := gb613) (o := .cells #[.int .i64 a0_0, .int .i64 a0_1, .slice A0_2 l0_2.length c0_2] 77 (0, 0)) (pK BK613)) : gb614 ≠ gb613)); clear BK613 HB; obtain ⟨BK613, HB, BK614, GW614, GE614, NB613_614, NB614_613⟩ := n_; clear hb hbox hg; have hnb14 := NB613_614.out; have hnc14 := NB614_613.out; have hcz15_0 : w13.cell? ⟨gb613, 0, none⟩ = some (.int .i64 a0_0) := (blk_cell BK613.out 0).trans rfl; have hcz15_1 : w13.cell? ⟨gb613, 1, none⟩ = some (.int .i64 a0_1) := (blk_cell BK613.out 1).trans rfl; have hcz15_2 : w13.cell? ⟨gb613, 2, none⟩ = some (.slice A0_2 l0_2.length c0_2) := (blk_cell BK613.out 2).trans rfl; have hfz15_0 := blk_frozen BK613.out 0; have hfz15_1 := blk_frozen BK613.out 1; have hfz15_2 := blk_frozen BK613.out 2; have hcz16_0 : w13.cell? ⟨gb614, 0, none⟩ = some (.int .i64 a1_0) := (blk_cell BK614.out 0).trans rfl; have hcz16_1 : w13.cell? ⟨gb614, 1, none⟩ = some (.int .i64 a1_1) := (blk_cell BK614.out 1).trans rfl; have hcz16_2 : w13.cell? ⟨gb614, 2, none⟩ = some (.slice A1_2 l1_2.length c1_2) := (blk_cell BK614.out 2).trans rfl; have hfz16_0 := blk_frozen BK614.out 0; have hfz16_1 := blk_frozen BK614.out 1; have hfz16_2 := blk_frozen BK614.out 2) | ((with_reducible refine gC (f := 92) rfl ?_); refine goesL_ (some 19) rfl rfl Try.func92 (by kernel_rfl) rfl #[.slice A0_2 l0_2.length c0_2, .slice A1_2 l1_2.length c1_2] rfl pA ?_; (with_reducible refine (laws_eqInt64S.calls k _ _ l0_2 _ _ l1_2 false _ ?side1 ?side2 ?side3 ?side4 A5.out).mono ?_); (case side1 => exact pC (Kd.C_below HR0_2.out HB.out)); (case side2 => exact HC0_2.out); (case side3 => exact pC (Kd.C_below HR1_2.out HB.out)); (case side4 => exact HC1_2.out); rintro e w' ⟨rfl, ⟨nd, rfl⟩⟩; refine ⟨_, rfl, ?_⟩))
       go_ret
       exact ⟨pE, pB⟩
   · rw [if_neg c4] at H
     have c4b0 : (a0_1 == a1_1) = false := beq_eq_false_iff_ne.mpr c4
     have c4b1 : (a0_1 != a1_1) = true := bne_iff_ne.mpr c4
     obtain rfl := sj H
     go_enter Try.func77, Try.ntmps77
     go_wp2_with (first | ((with_reducible refine gate_dst (N := 2) rfl ?_); refine box_event ?hg (N := 2) ?hd (cs := #[.int .i64 a0_0, .int .i64 a0_1, .slice A0_2 l0_2.length c0_2]) (t := 77) ?hr ?_; (case hd => rfl); (case hg => rfl); (case hr => first | (go_simp; done) | (go_simp; rfl)); intro gb613 hg w17 hbox hb; have n_ := t4 (bz_ pB hb) (hbox) ((by rw [hg]; exact (bs_ pB) : w.heap.size ≤ gb613)) ((by rw [hg]; exact (bs_ pB) : w.heap.size ≤ gb613)); clear HB; obtain ⟨HB, BK613, GW613, GE613⟩ := n_; clear hb hbox hg) | ((with_reducible refine gate_dst (N := 3) rfl ?_); refine box_event ?hg (N := 3) ?hd (cs := #[.int .i64 a1_0, .int .i64 a1_1, .slice A1_2 l1_2.length c1_2]) (t := 77) ?hr ?_; (case hd => rfl); (case hg => rfl); (case hr => first | (go_simp; done) | (go_simp; rfl)); intro gb614 hg w18 hbox hb; have n_ := t7 (blk_below (g := gb613) (o := .cells #[.int .i64 a0_0, .int .i64 a0_1, .slice A0_2 l0_2.length c0_2] 77 (0, 0)) (pK BK613) hb) (bz_ pB hb) (hbox) ((by rw [hg]; exact (bs_ pB) : w.heap.size ≤ gb614)) ((by rw [hg]; exact (bs_ pB) : w.heap.size ≤ gb614)) ((by rw [hg]; exact Nat.ne_of_lt (blk_lt (g := gb613) (o := .cells #[.int .i64 a0_0, .int .i64 a0_1, .slice A0_2 l0_2.length c0_2] 77 (0, 0)) (pK BK613)) : gb613 ≠ gb614)) ((by rw [hg]; exact Nat.ne_of_gt (blk_lt (g := gb613) (o := .cells #[.int .i64 a0_0, .int .i64 a0_1, .slice A0_2 l0_2.length c0_2] 77 (0, 0)) (pK BK613)) : gb614 ≠ gb613)); clear BK613 HB; obtain ⟨BK613, HB, BK614, GW614, GE614, NB613_614, NB614_613⟩ := n_; clear hb hbox hg; have hnb19 := NB613_614.out; have hnc19 := NB614_613.out; have hcz20_0 : w18.cell? ⟨gb613, 0, none⟩ = some (.int .i64 a0_0) := (blk_cell BK613.out 0).trans rfl; have hcz20_1 : w18.cell? ⟨gb613, 1, none⟩ = some (.int .i64 a0_1) := (blk_cell BK613.out 1).trans rfl; have hcz20_2 : w18.cell? ⟨gb613, 2, none⟩ = some (.slice A0_2 l0_2.length c0_2) := (blk_cell BK613.out 2).trans rfl; have hfz20_0 := blk_frozen BK613.out 0; have hfz20_1 := blk_frozen BK613.out 1; have hfz20_2 := blk_frozen BK613.out 2; have hcz21_0 : w18.cell? ⟨gb614, 0, none⟩ = some (.int .i64 a1_0) := (blk_cell BK614.out 0).trans rfl; have hcz21_1 : w18.cell? ⟨gb614, 1, none⟩ = some (.int .i64 a1_1) := (blk_cell BK614.out 1).trans rfl; have hcz21_2 : w18.cell? ⟨gb614, 2, none⟩ = some (.slice A1_2 l1_2.length c1_2) := (blk_cell BK614.out 2).trans rfl; have hfz21_0 := blk_frozen BK614.out 0; have hfz21_1 := blk_frozen BK614.out 1; have hfz21_2 := blk_frozen BK614.out 2))
     go_ret
     exact ⟨pE, pB⟩
 · rw [if_neg c3] at H
   have c3b0 : (a0_0 == a1_0) = false := beq_eq_false_iff_ne.mpr c3
   have c3b1 : (a0_0 != a1_0) = true := bne_iff_ne.mpr c3
   obtain rfl := sj H
   go_enter Try.func77, Try.ntmps77
   go_wp2_with (first | ((with_reducible refine gate_dst (N := 2) rfl ?_); refine box_event ?hg (N := 2) ?hd (cs := #[.int .i64 a0_0, .int .i64 a0_1, .slice A0_2 l0_2.length c0_2]) (t := 77) ?hr ?_; (case hd => rfl); (case hg => rfl); (case hr => first | (go_simp; done) | (go_simp; rfl)); intro gb613 hg w22 hbox hb; have n_ := t4 (bz_ pB hb) (hbox) ((by rw [hg]; exact (bs_ pB) : w.heap.size ≤ gb613)) ((by rw [hg]; exact (bs_ pB) : w.heap.size ≤ gb613)); clear HB; obtain ⟨HB, BK613, GW613, GE613⟩ := n_; clear hb hbox hg) | ((with_reducible refine gate_dst (N := 3) rfl ?_); refine box_event ?hg (N := 3) ?hd (cs := #[.int .i64 a1_0, .int .i64 a1_1, .slice A1_2 l1_2.length c1_2]) (t := 77) ?hr ?_; (case hd => rfl); (case hg => rfl); (case hr => first | (go_simp; done) | (go_simp; rfl)); intro gb614 hg w23 hbox hb; have n_ := t7 (blk_below (g := gb613) (o := .cells #[.int .i64 a0_0, .int .i64 a0_1, .slice A0_2 l0_2.length c0_2] 77 (0, 0)) (pK BK613) hb) (bz_ pB hb) (hbox) ((by rw [hg]; exact (bs_ pB) : w.heap.size ≤ gb614)) ((by rw [hg]; exact (bs_ pB) : w.heap.size ≤ gb614)) ((by rw [hg]; exact Nat.ne_of_lt (blk_lt (g := gb613) (o := .cells #[.int .i64 a0_0, .int .i64 a0_1, .slice A0_2 l0_2.length c0_2] 77 (0, 0)) (pK BK613)) : gb613 ≠ gb614)) ((by rw [hg]; exact Nat.ne_of_gt (blk_lt (g := gb613) (o := .cells #[.int .i64 a0_0, .int .i64 a0_1, .slice A0_2 l0_2.length c0_2] 77 (0, 0)) (pK BK613)) : gb614 ≠ gb613)); clear BK613 HB; obtain ⟨BK613, HB, BK614, GW614, GE614, NB613_614, NB614_613⟩ := n_; clear hb hbox hg; have hnb24 := NB613_614.out; have hnc24 := NB614_613.out; have hcz25_0 : w23.cell? ⟨gb613, 0, none⟩ = some (.int .i64 a0_0) := (blk_cell BK613.out 0).trans rfl; have hcz25_1 : w23.cell? ⟨gb613, 1, none⟩ = some (.int .i64 a0_1) := (blk_cell BK613.out 1).trans rfl; have hcz25_2 : w23.cell? ⟨gb613, 2, none⟩ = some (.slice A0_2 l0_2.length c0_2) := (blk_cell BK613.out 2).trans rfl; have hfz25_0 := blk_frozen BK613.out 0; have hfz25_1 := blk_frozen BK613.out 1; have hfz25_2 := blk_frozen BK613.out 2; have hcz26_0 : w23.cell? ⟨gb614, 0, none⟩ = some (.int .i64 a1_0) := (blk_cell BK614.out 0).trans rfl; have hcz26_1 : w23.cell? ⟨gb614, 1, none⟩ = some (.int .i64 a1_1) := (blk_cell BK614.out 1).trans rfl; have hcz26_2 : w23.cell? ⟨gb614, 2, none⟩ = some (.slice A1_2 l1_2.length c1_2) := (blk_cell BK614.out 2).trans rfl; have hfz26_0 := blk_frozen BK614.out 0; have hfz26_1 := blk_frozen BK614.out 1; have hfz26_2 := blk_frozen BK614.out 2))
   go_ret
   exact ⟨pE, pB⟩
end Go.Proofs.Ytjmdfghljlmfmaa.QFnExactHeaderSum
