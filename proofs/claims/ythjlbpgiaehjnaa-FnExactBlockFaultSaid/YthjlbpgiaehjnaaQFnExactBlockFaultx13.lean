-- written by this session's program (wip/tools/myprint.py)
import Derived.Test.YthjlbpgiaehjnaaQFnExactBlockFaultx0
import Derived.Test.YthjlbpgiaehjnaaQFnExactBlockFaultx12
-- squeezed
namespace Go.Proofs.Ythjlbpgiaehjnaa.QFnExactBlockFault
open Go.RowKit Go.Proofs.YthjlbpgiaehjnaaW.PrintWords Go.Proofs.YthjlbpgiaehjnaaW.PrintLast Go.Proofs.YthjlbpgiaehjnaaW.PrintMore
attribute [local go_sem] max2_int min2_int max_two min_two max_three min_three max_four min_four   -- for this text's walks alone
set_option linter.unusedVariables false
set_option linter.unusedSimpArgs false
set_option maxHeartbeats 8000000
set_option maxRecDepth 100000
def impl_above.l0 : Nat → List Int → List Int → Int → Option (List Int)
 | 0, _, _, _ => none
 | k + 1, x0, x3, x4 => if x4 < (x0.length : Int) then (if 0 ≤ x4 then ((impl_partner.f x0 x4).bind fun t446 => ((impl_sumInts.f k (([rd x0 x4, t446] : List Int))).bind fun t450 => (if x3.length < 17592186044416 then (impl_above.l0 k x0 (x3 ++ [t450]) (wrap64 (x4 + 2))) else (none)))) else (none)) else (some x3)
def impl_above.f (k : Nat) (l0 : List Int) : Option (List Int) := impl_above.l0 k l0 (([] : List Int)) 0
theorem impl_above.mono_l : ∀ k, (∀ y0 y1 y2, LeO (impl_above.l0 k y0 y1 y2) (impl_above.l0 (k + 1) y0 y1 y2))
 | 0 => fun _ _ _ r h => by simp [impl_above.l0] at h
 | k + 1 => by
  have ih0 := impl_above.mono_l k
  · intro y0 y1 y2
    unfold impl_above.l0
    repeat' with_reducible first | exact ih0 _ _ _ | exact impl_sumInts.mono _ _ | exact LeO.refl _ | exact LeO.none _ | refine LeO.ite ?_ ?_ | refine LeO.bind ?_ (fun _ => ?_)
theorem impl_above.mono : ∀ a0 k, LeO (impl_above.f k a0) (impl_above.f (k + 1) a0) := by
 intro a0 k
 have ih0 := impl_above.mono_l k
 unfold impl_above.f
 repeat' with_reducible first | exact ih0 _ _ _ | exact impl_sumInts.mono _ _ | exact LeO.refl _ | exact LeO.none _ | refine LeO.ite ?_ ?_ | refine LeO.bind ?_ (fun _ => ?_)
def impl_above.T5 : Bool × List (List Nat × List Nat) := (true, [([], []), ([], []), ([], []), ([1, 2], [1, 2]), ([3], [3]), ([], []), ([], []), ([5, 6], [5, 6]), ([4, 7], [4, 7]), ([8, 7], [8]), ([9], [9]), ([0, 10, 9], [0, 10]), ([11, 11, 0, 1, 2, 3, 4, 5, 6, 7, 8, 9, 10, 11], [0, 11])])
def impl_above.B5 : List Nat := [0, 0, 0, 6, 14, 0, 0, 96, 254, 510, 1022, 2047, 4095]
theorem impl_above.tab5 : rtab .any (opsOf Try.f135 5) = impl_above.T5 := by kernel_rfl
theorem impl_above.bits5 : waitsOk impl_above.T5.2 impl_above.B5 = true := by kernel_rfl
theorem impl_above.calls (k : Nat) (A0 : Option Addr) (c0 : Nat) (l0 : List Int) (r : List Int) (w : World) (hr0 : Kd.C (Kd.int .i64) w A0 l0.length l0) (hc0 : l0.length ≤ c0) (h : impl_above.f k l0 = some r) :
 Calls Try.prog 135 #[.slice A0 l0.length c0] w fun e w' => ∃ v0_ : Value, e = .returned (v0_) ∧ Kd.R (Kd.int .i64) 2 w' w.heap.size (fun _ => True) v0_ r ∧ Below w.heap.size w w' := by
 have HR0 := Aside0.mk hr0; have HC0 := Aside0.mk hc0; clear hr0 hc0
 have HB := Aside0.mk (Below.refl w.heap.size w)
 have H : (impl_above.l0 k l0 (([] : List Int)) 0) = some r := h
 clear h
 obtain ⟨y442, hy442⟩ : ∃ y_ : List Int, y_ = (([] : List Int)) := ⟨_, rfl⟩
 replace H : (impl_above.l0 k l0 y442 0) = some r := by first | (rw [hy442]; with_reducible exact H) | (have H2_ := (Option.bind_some _ _).symm.trans H; rw [hy442]; with_reducible exact H2_) | (have H2_ := (Option.bind_some _ _).symm.trans H; with_reducible exact H2_) | with_reducible exact H | (rw [hy442]; exact H) | exact H
 have Ny442 := Aside0.mk hy442; clear hy442
 have H' := Aside0.mk H
 clear H
 go_enter Try.func135, Try.ntmps135
 go_wp2_with (first | ((with_reducible refine gate_dst (N := 5) rfl ?_); refine Kd.R_lit (Kd.int .i64) _ 2 ?hg (N := 5) ?hd (xs := ([] : List Int)) (inner := []) (ok := fun _ => True) (okp := fun _ => True) ?hr ?hp (fun _ hk => hk) trivial (Below.refl _ _) (Nat.le_refl _) (by simp) ?_; (case hd => rfl); (case hg => rfl); (case hr => first | (go_simp; done) | (go_simp; rfl)); (case hp => exact (Reps.none _ _)); intro v443 w2 ho3 hb hg_ hnew_; clear hg_ hnew_; (first | rw [← Ny442.out] at ho3 | (simp only [Int.reduceToNat] at ho3; rw [← Ny442.out] at ho3)); have n_ := t2 (Kd.R_lower ho3 (below_size pB)) (below_step pB hb); clear HB; obtain ⟨HO444, HB⟩ := n_; clear hb ho3))
 go_loopg [3, 4] k (fun kq v3 v4 w' => ∃ (x3_1 : List Int) (x4_1 : Int), v4 = .int .i64 x4_1 ∧ Aside0 (impl_above.l0 kq l0 x3_1 x4_1 = some r) ∧ Aside0 (kq ≤ k) ∧ Aside0 (Kd.R (Kd.int .i64) 2 w' w.heap.size (fun _ => True) v3 x3_1) ∧ Aside0 (Below w.heap.size w w'))
 case atStart => exact ⟨(y442), (0), pF, H', ⟨Nat.le_refl _⟩, ⟨(pR HO444)⟩, ⟨pB⟩⟩
 case round =>
  clear H'
  (try clear c1); (try clear p2)
  obtain ⟨x3_1, x4_1, rfl, HA, HK1, HO_3, HB⟩ := hrel
  cases gk with
  | zero => exact absurd HA.out (by simp [impl_above.l0])
  | succ k1 =>
   have H := HA.out
   clear HA
   simp only [impl_above.l0] at H
   by_cases c4 : x4_1 < (l0.length : Int)
   · rw [if_pos c4] at H
     have c4b0 : decide (x4_1 < (l0.length : Int)) = true := decide_eq_true c4
     clear c4
     by_cases c5 : 0 ≤ x4_1
     · rw [if_pos c5] at H
       have c5b0 : decide (0 ≤ x4_1) = true := decide_eq_true c5
       clear c5
       obtain ⟨t446, A60, H⟩ := bO H
       replace H : ((impl_sumInts.f k1 (([rd l0 x4_1, t446] : List Int))).bind fun t450 => (if x3_1.length < 17592186044416 then (impl_above.l0 k1 l0 (x3_1 ++ [t450]) (wrap64 (x4_1 + 2))) else (none))) = some r := H
       have A6 := Aside0.mk A60; clear A60
       obtain ⟨y447, hy447⟩ : ∃ y_ : List Int, y_ = (([rd l0 x4_1, t446] : List Int)) := ⟨_, rfl⟩
       replace H : ((impl_sumInts.f k1 y447).bind fun t450 => (if x3_1.length < 17592186044416 then (impl_above.l0 k1 l0 (x3_1 ++ [t450]) (wrap64 (x4_1 + 2))) else (none))) = some r := by first | (rw [hy447]; with_reducible exact H) | (have H2_ := (Option.bind_some _ _).symm.trans H; rw [hy447]; with_reducible exact H2_) | (have H2_ := (Option.bind_some _ _).symm.trans H; with_reducible exact H2_) | with_reducible exact H | (rw [hy447]; exact H) | exact H
       have Ny447 := Aside0.mk hy447; clear hy447
       obtain ⟨t450, A70, H⟩ := bO H
       replace H : (if x3_1.length < 17592186044416 then (impl_above.l0 k1 l0 (x3_1 ++ [t450]) (wrap64 (x4_1 + 2))) else (none)) = some r := H
       have A7 := Aside0.mk A70; clear A70
       by_cases c8 : x3_1.length < 17592186044416
       · rw [if_pos c8] at H
         have LMc8 := Aside0.mk c8; clear c8
         obtain ⟨y451, hy451⟩ : ∃ y_ : List Int, y_ = (x3_1 ++ [t450]) := ⟨_, rfl⟩
         replace H : (impl_above.l0 k1 l0 y451 (wrap64 (x4_1 + 2))) = some r := by first | (rw [hy451]; with_reducible exact H) | (have H2_ := (Option.bind_some _ _).symm.trans H; rw [hy451]; with_reducible exact H2_) | (have H2_ := (Option.bind_some _ _).symm.trans H; with_reducible exact H2_) | with_reducible exact H | (rw [hy451]; exact H) | exact H
         have Ny451 := Aside0.mk hy451; clear hy451
         have H' := Aside0.mk H
         clear H
         try go_wp2
         have n_ := t2 (Kd.R_drew HO_3.out) (below_drew1 HB.out)
         clear HO_3 HB; obtain ⟨HO_3, HB⟩ := n_
         have p445 : 0 ≤ (x4_1 : Int) := pD
         have q445 : x4_1 < (l0.length : Int) := pD
         obtain ⟨ad445, e445, hx445_0⟩ := Kd.at_int HR0.out x4_1 p445 q445
         have hw445_0 := hx445_0
         cases e445; replace hx445_0 := cb HB hx445_0; replace p445 := eq_true p445; replace q445 := eq_true q445
         refine start_ (n := 13) (S := fun w' => w'.cell? (ad445.add (x4_1).toNat) = some (.int .i64 (rd l0 x4_1))) (ds := []) #[false, false, false, false, false, false, false, false, false, false, false, false, false] (by kernel_rfl) rfl rfl ((cb HB hw445_0)) (fun hHeld => ?_); refine with_tabW impl_above.tab5 impl_above.bits5 (fun HT_ HW_ => ?_)
         generalize wr.drew = w9 at HO_3 HB hx445_0 hHeld ⊢
         refine rP 0 (some 12) #[true, false, false, false, false, false, false, false, false, false, false, false, false] (any_of HT_.out (by kernel_rfl)) ?_
         refine rP 1 (some 13) #[true, true, false, false, false, false, false, false, false, false, false, false, false] (any_of HT_.out (by kernel_rfl)) ?_
         refine rP 2 (some 14) #[true, true, true, false, false, false, false, false, false, false, false, false, false] (any_of HT_.out (by kernel_rfl)) ?_
         refine rP 3 (some 15) #[true, true, true, true, false, false, false, false, false, false, false, false, false] (any_of HT_.out (by kernel_rfl)) ?_
         refine rP 5 (some 17) #[true, true, true, true, false, true, false, false, false, false, false, false, false] (any_of HT_.out (by kernel_rfl)) ?_
         refine rP 6 (some 18) #[true, true, true, true, false, true, true, false, false, false, false, false, false] (any_of HT_.out (by kernel_rfl)) ?_
         refine rT 4 (some 16) #[true, true, true, true, true, true, true, false, false, false, false, false, false] (take_ofW HT_.out HW_.out (by kernel_rfl)) hHeld ?_
         refine one_ (i := 7) (N := some 19) #[true, true, true, true, true, true, true, true, false, false, false, false, false] rfl rfl (one_of HT_.out (by kernel_rfl)) (by decide) (fun K hK => ?_)
         refine goes_ Try.func153 (by kernel_rfl) rfl #[.slice (some ad445) l0.length c0, .int .i64 x4_1] (by rfl) rfl rfl pA ?_
         with_reducible refine (impl_partner.calls _ _ l0 x4_1 t446 _ ?side1 ?side2 A6.out).mono ?_
         (case side1 => exact pC (Kd.C_below HR0.out HB.out))
         (case side2 => exact HC0.out)
         rintro e w' ⟨rfl, ⟨nd, rfl⟩⟩
         refine ⟨_, rfl, ?_⟩
         refine hK.out _ _ ((cb HB hw445_0)) (fun hHeld => ?_)
         clear hK K
         refine rN ?_
         refine one_ (i := 8) (N := some 20) #[true, true, true, true, true, true, true, true, true, false, false, false, false] rfl rfl (one_of HT_.out (by kernel_rfl)) (by decide) (fun K hK => ?_)
         refine Kd.R_lit_step (Kd.int .i64) _ 2 ?hg (N := 20) ?hd (xs := ([rd l0 x4_1, t446] : List Int)) (inner := [.int .i64 (rd l0 x4_1), .int .i64 t446]) (ok := fun _ => True) (okp := fun _ => True) ?hr ?hp (fun _ hk => hk) trivial (Below.refl _ _) (Nat.le_refl _) (by simp) ?_; (case hd => rfl); (case hg => rfl); (case hr => first | (go_simp; done) | (go_simp; rfl)); (case hp => exact (Reps.one (show Kd.M (Kd.int .i64) _ _ _ (rd l0 x4_1) [.int .i64 (rd l0 x4_1)] from rfl) (Reps.one (show Kd.M (Kd.int .i64) _ _ _ t446 [.int .i64 t446] from rfl) (Reps.none _ _))))
         intro v448 w10 ho11 hb hg_ hnew_
         clear hg_ hnew_
         (first | rw [← Ny447.out] at ho11 | (simp only [Int.reduceToNat] at ho11; rw [← Ny447.out] at ho11))
         have n_ := t3 (Kd.R_elder' (pR HO_3) (Kd.R_base ho11) hb) (Kd.R_lower (Kd.R_new' ho11 (Kd.R_lt (pR HO_3))) (below_size pB)) (below_step pB hb)
         clear HO_3 HB; obtain ⟨HO_3, HO449, HB⟩ := n_; clear hb ho11
         obtain ⟨Ao12, co12, eo12⟩ := Kd.R_slice HO449.out
         (first | subst eo12 | (injection eo12 with f1_ f2_ f3_; have f4_ := f1_.symm; have f5_ := f3_.symm; clear f1_ f2_ f3_; subst f4_; subst f5_))
         refine hK.out _ _ ((cb HB hw445_0)) (fun hHeld => ?_)
         clear hK K
         refine rN ?_
         refine one_ (i := 9) (N := some 21) #[true, true, true, true, true, true, true, true, true, true, false, false, false] rfl rfl (one_of HT_.out (by kernel_rfl)) (by decide) (fun K hK => ?_)
         refine goes_ Try.func152 (by kernel_rfl) rfl #[.slice Ao12 y447.length co12] (by rfl) rfl rfl pA ?_
         with_reducible refine (impl_sumInts.calls k1 _ _ y447 t450 _ ?side1 ?side2 A7.out).mono ?_
         (case side1 => exact pC (Kd.R_reads' HO449.out).2.2)
         (case side2 => exact (Kd.R_reads' HO449.out).2.1)
         rintro e w13 ⟨rfl, hb⟩
         refine ⟨_, rfl, ?_⟩
         have n_ := t3 (Kd.R_below (pR HO_3) hb) (Kd.R_below (pR HO449) hb) (below_step pB hb)
         clear HO_3 HO449 HB; obtain ⟨HO_3, HO449, HB⟩ := n_; (try clear hb); (try clear hb2); (try clear hk); (try clear hi)
         refine hK.out _ _ ((cb HB hw445_0)) (fun hHeld => ?_)
         clear hK K
         refine rN ?_
         refine one_ (i := 10) (N := some 22) #[true, true, true, true, true, true, true, true, true, true, true, false, false] rfl rfl (one_of HT_.out (by kernel_rfl)) (by decide) (fun K hK => ?_)
         refine value_ (w1 := ?_) (v := ?_) (by rfl) rfl ?_ ?_
         rotate_left 2
         · go_simp
           constructor
           · rfl
           · rfl
         refine hK.out _ _ ((World.cell?_alloc_lt _ _ _ (World.block_lt_of_cell? _ _ ((cb HB hw445_0)))).trans ((cb HB hw445_0))) (fun hHeld => ?_)
         clear hK K
         refine rN ?_
         refine one_ (i := 11) (N := some 23) #[true, true, true, true, true, true, true, true, true, true, true, true, false] rfl rfl (one_of HT_.out (by kernel_rfl)) (by decide) (fun K hK => ?_)
         refine Kd.R_append_step (Kd.int .i64) (w0 := w) w.heap.size (by rfl) (.tmp 12) (.tmp 22) 32 2 (.int .i64 0) 8 rfl Try.underlying32 info2 rfl (by decide) (by omega) u3 x3_1 t450 [.int .i64 t450] (fun k_ => some k_ ≠ (.slice Ao12 y447.length co12 : Value).ownBlock) (fun _ => False) rfl rfl ?aP (fun _ hk => hk.elim) ?aF ?aO ?aB ?aS ?aL ?_
         (case aP => exact rfl)
         (case aB => exact pB)
         (case aF => exact (fun k_ hk => Kd.fresh' (Kd.R_lt (pR HO449)) k_ hk))
         (case aO => exact (pT (Kd.R_mono HO_3.out (fun _ hk => hk.2))))
         (case aS => exact (below_size pB))
         (case aL => have := LMc8.out; omega)
         intro v452 w14 ho hb hg hat
         rw [← Ny451.out] at ho
         have n_ := t3 (Kd.R_after (ok := (fun _ => True)) (pR HO449) hg hat) (hb) (ho)
         clear HO449 HB HO_3; obtain ⟨HO449, HB, HO453⟩ := n_; clear ho hb hg hat
         refine hK.out _ _ ((cb HB hw445_0)) (fun hHeld => ?_)
         clear hK K
         refine rN ?_
         refine rP 12 (some 3) #[true, true, true, true, true, true, true, true, true, true, true, true, true] (any_of HT_.out (by kernel_rfl)) ?_
         refine done_ (done_of HT_.out (by kernel_rfl)) ?_
         try go_wp2
         go_roundg k1
         case measure => have := HK1.out; omega
         case rel => exact ⟨(y451), (wrap64 (x4_1 + 2)), pF, H', ⟨by have := HK1.out; omega⟩, ⟨(pT (Kd.R_mono HO453.out (fun _ hk => trivial)))⟩, ⟨pB⟩⟩
       · rw [if_neg c8] at H
         exact absurd H (by simp)
     · rw [if_neg c5] at H
       exact absurd H (by simp)
   · rw [if_neg c4] at H
     have c4b0 : decide (x4_1 < (l0.length : Int)) = false := decide_eq_false c4
     clear c4
     obtain rfl := Option.some.inj H
     go_wp2
     go_ret
     exact ⟨_, pE, (pR HO_3), pB⟩
mutual
def impl_HasTwin.l0 : Nat → List Int → Option (Bool)
 | 0, _ => none
 | k + 1, x3 => if (x3.length : Int) > 1 then (impl_HasTwin.l1 k x3 1) else (some false)
def impl_HasTwin.l1 : Nat → List Int → Int → Option (Bool)
 | 0, _, _ => none
 | k + 1, x3, x4 => if x4 < (x3.length : Int) then (if 0 ≤ (wrap64 (x4 - 1)) then (if (wrap64 (x4 - 1)) < (x3.length : Int) then (if 0 ≤ x4 then (if (rd x3 (wrap64 (x4 - 1))) = (rd x3 x4) then (some true) else (impl_HasTwin.l1 k x3 (wrap64 (x4 + 2)))) else (none)) else (none)) else (none)) else ((impl_above.f k x3).bind fun t457 => (impl_HasTwin.l0 k t457))
end
def impl_HasTwin.f (k : Nat) (l0 : List Int) : Option (Bool) := (impl_leavesFault.f k l0).bind fun t454 => (if t454 = 0 then (impl_HasTwin.l0 k l0) else (some false))
theorem impl_HasTwin.mono_l : ∀ k, (∀ y0, LeO (impl_HasTwin.l0 k y0) (impl_HasTwin.l0 (k + 1) y0)) ∧ (∀ y0 y1, LeO (impl_HasTwin.l1 k y0 y1) (impl_HasTwin.l1 (k + 1) y0 y1))
 | 0 => ⟨fun _ r h => by simp [impl_HasTwin.l0] at h, fun _ _ r h => by simp [impl_HasTwin.l1] at h⟩
 | k + 1 => by
  obtain ⟨ih0, ih1⟩ := impl_HasTwin.mono_l k
  refine ⟨?_, ?_⟩
  · intro y0
    unfold impl_HasTwin.l0
    repeat' with_reducible first | exact ih0 _ | exact ih1 _ _ | exact impl_above.mono _ _ | exact impl_leavesFault.mono _ _ | exact LeO.refl _ | exact LeO.none _ | refine LeO.ite ?_ ?_ | refine LeO.bind ?_ (fun _ => ?_)
  · intro y0 y1
    unfold impl_HasTwin.l1
    repeat' with_reducible first | exact ih0 _ | exact ih1 _ _ | exact impl_above.mono _ _ | exact impl_leavesFault.mono _ _ | exact LeO.refl _ | exact LeO.none _ | refine LeO.ite ?_ ?_ | refine LeO.bind ?_ (fun _ => ?_)
theorem impl_HasTwin.mono : ∀ a0 k, LeO (impl_HasTwin.f k a0) (impl_HasTwin.f (k + 1) a0) := by
 intro a0 k
 obtain ⟨ih0, ih1⟩ := impl_HasTwin.mono_l k
 unfold impl_HasTwin.f
 repeat' with_reducible first | exact ih0 _ | exact ih1 _ _ | exact impl_above.mono _ _ | exact impl_leavesFault.mono _ _ | exact LeO.refl _ | exact LeO.none _ | refine LeO.ite ?_ ?_ | refine LeO.bind ?_ (fun _ => ?_)
theorem impl_HasTwin.calls (k : Nat) (P0_ : Nat → Prop) (A0 : Option Addr) (c0 : Nat) (l0 : List Int) (r : Bool) (w : World) (hs0 : Kd.V (Kd.int .i64) 2 w w.heap.size (fun k_ => P0_ k_) (.slice A0 l0.length c0) l0) (h : impl_HasTwin.f k l0 = some r) :
 Calls Try.prog 94 #[.slice A0 l0.length c0] w fun e w' => e = .returned (.bool r) ∧ Below w.heap.size w w' := by
 have HO0 := Aside0.mk (show Kd.V (Kd.int .i64) 2 w w.heap.size (fun k_ => (P0_ k_ ∨ w.heap.size ≤ k_)) (.slice A0 l0.length c0) l0 from Kd.V_mono hs0 (fun k_ hk => .inl hk))
 have HB := Aside0.mk (Below.refl w.heap.size w)
 have H : ((impl_leavesFault.f k l0).bind fun t454 => (if t454 = 0 then (impl_HasTwin.l0 k l0) else (some false))) = some r := h
 clear h
 obtain ⟨t454, A20, H⟩ := bO H
 replace H : (if t454 = 0 then (impl_HasTwin.l0 k l0) else (some false)) = some r := H
 have A2 := Aside0.mk A20; clear A20
 by_cases c3 : t454 = 0
 · rw [if_pos c3] at H
   have c3b0 : (t454 == 0) = true := beq_iff_eq.mpr c3
   have c3b1 : (t454 != 0) = false := bne_eq_false_iff_eq.mpr c3
   clear c3
   have H' := Aside0.mk H
   clear H
   go_enter Try.func94, Try.ntmps94
   go_wp2_with (first | (go_at_call 134; (with_reducible refine (impl_leavesFault.calls k _ _ l0 t454 _ ?side1 ?side2 A2.out).mono ?_); (case side1 => exact pC (Kd.V_reads' HO0.out).2.2); (case side2 => exact (Kd.V_reads' HO0.out).2.1); rintro e w' ⟨rfl, ⟨nd, rfl⟩⟩; (try first | exact ⟨rfl, _, World.drewN_drewN _ _ _⟩ | exact ⟨rfl, _, Eq.trans (World.drewN_drewN _ _ _) (congrArg (World.drewN _) (Nat.add_assoc _ _ _))⟩)))
   repeat (go_quiet (first | (go_at_call 134; (with_reducible refine (impl_leavesFault.calls k _ _ l0 t454 _ ?side1 ?side2 A2.out).mono ?_); (case side1 => exact pC (Kd.V_reads' HO0.out).2.2); (case side2 => exact (Kd.V_reads' HO0.out).2.1); rintro e w' ⟨rfl, ⟨nd, rfl⟩⟩; (try first | exact ⟨rfl, _, World.drewN_drewN _ _ _⟩ | exact ⟨rfl, _, Eq.trans (World.drewN_drewN _ _ _) (congrArg (World.drewN _) (Nat.add_assoc _ _ _))⟩))); try go_wp2_with (first | (go_at_call 134; (with_reducible refine (impl_leavesFault.calls k _ _ l0 t454 _ ?side1 ?side2 A2.out).mono ?_); (case side1 => exact pC (Kd.V_reads' HO0.out).2.2); (case side2 => exact (Kd.V_reads' HO0.out).2.1); rintro e w' ⟨rfl, ⟨nd, rfl⟩⟩; (try first | exact ⟨rfl, _, World.drewN_drewN _ _ _⟩ | exact ⟨rfl, _, Eq.trans (World.drewN_drewN _ _ _) (congrArg (World.drewN _) (Nat.add_assoc _ _ _))⟩))))
   go_loopg [3] k (fun kq v3 w' => ∃ (x3_1 : List Int), Aside0 (impl_HasTwin.l0 kq x3_1 = some r) ∧ Aside0 (kq ≤ k) ∧ Aside0 (Kd.V (Kd.int .i64) 2 w' w.heap.size (fun k_ => (P0_ k_ ∨ w.heap.size ≤ k_)) v3 x3_1) ∧ Aside0 (Below w.heap.size w w'))
   case atStart => exact ⟨(l0), H', ⟨Nat.le_refl _⟩, ⟨by (with_reducible repeat (first | apply Kd.V_alloc | apply Kd.V_drewN | apply Kd.V_drew)); exact HO0.out⟩, ⟨pB⟩⟩
   case round =>
    clear H'
    (try clear p2); (try clear c3); (try clear c3b0); (try clear c3b1)
    obtain ⟨x3_1, HA, HK1, HO_3, HB⟩ := hrel
    cases gk with
    | zero => exact absurd HA.out (by simp [impl_HasTwin.l0])
    | succ k1 =>
     have H := HA.out
     clear HA
     simp only [impl_HasTwin.l0] at H
     by_cases c4 : (x3_1.length : Int) > 1
     · rw [if_pos c4] at H
       have c4b0 : decide (1 < (x3_1.length : Int)) = true := decide_eq_true c4
       have c4b1 : decide (1 < x3_1.length) = true := decide_eq_true (by omega)
       clear c4
       have H' := Aside0.mk H
       clear H
       obtain ⟨Ao5, co5, eo5⟩ := Kd.V_slice HO_3.out
       subst eo5
       go_wp2
       repeat (go_quiet (fail); try go_wp2)
       go_loopg [4] k1 (fun kq v4 w' => ∃ (x4_2 : Int), v4 = .int .i64 x4_2 ∧ Aside0 (impl_HasTwin.l1 kq x3_1 x4_2 = some r) ∧ Aside0 (kq ≤ k1) ∧ Aside0 (Kd.V (Kd.int .i64) 2 w' w.heap.size (fun k_ => (P0_ k_ ∨ w.heap.size ≤ k_)) (.slice Ao5 x3_1.length co5) x3_1) ∧ Aside0 (Below w.heap.size w w'))
       case atStart => exact ⟨(1), pF, H', ⟨Nat.le_refl _⟩, ⟨by (with_reducible repeat (first | apply Kd.V_alloc | apply Kd.V_drewN | apply Kd.V_drew)); exact HO_3.out⟩, ⟨pB⟩⟩
       case round =>
        clear H'
        (try clear p2); (try clear c3); (try clear c3b0); (try clear c3b1); (try clear c4); (try clear c4b0); (try clear c4b1); (try clear p2)
        obtain ⟨x4_2, rfl, HA, HK2, HO_3, HB⟩ := hrel
        cases gk with
        | zero => exact absurd HA.out (by simp [impl_HasTwin.l1])
        | succ k2 =>
         have H := HA.out
         clear HA
         simp only [impl_HasTwin.l1] at H
         by_cases c6 : x4_2 < (x3_1.length : Int)
         · rw [if_pos c6] at H
           have c6b0 : decide (x4_2 < (x3_1.length : Int)) = true := decide_eq_true c6
           clear c6
           obtain ⟨ji7, hji7⟩ : ∃ j_ : Int, (wrap64 (x4_2 - 1)) = j_ := ⟨_, rfl⟩
           replace H : (if 0 ≤ (ji7) then (if (ji7) < (x3_1.length : Int) then (if 0 ≤ x4_2 then (if (rd x3_1 (ji7)) = (rd x3_1 x4_2) then (some true) else (impl_HasTwin.l1 k2 x3_1 (wrap64 (x4_2 + 2)))) else (none)) else (none)) else (none)) = some r := by first | (rw [hji7] at H; exact H) | (simp only [hji7] at H ⊢; exact H)
           have hji7w : (IntKind.i64.wrap (x4_2 - 1)) = ji7 := (i64_w _).trans hji7
           by_cases c8 : 0 ≤ (ji7)
           · rw [if_pos c8] at H
             have c8b0 : decide (0 ≤ (ji7)) = true := decide_eq_true c8
             clear c8
             by_cases c9 : (ji7) < (x3_1.length : Int)
             · rw [if_pos c9] at H
               have c9b0 : decide ((ji7) < (x3_1.length : Int)) = true := decide_eq_true c9
               clear c9
               by_cases c10 : 0 ≤ x4_2
               · rw [if_pos c10] at H
                 have c10b0 : decide (0 ≤ x4_2) = true := decide_eq_true c10
                 clear c10
                 by_cases c11 : (rd x3_1 (ji7)) = (rd x3_1 x4_2)
                 · rw [if_pos c11] at H
                   have c11b0 : ((rd x3_1 (ji7)) == (rd x3_1 x4_2)) = true := beq_iff_eq.mpr c11
                   have c11b1 : ((rd x3_1 (ji7)) != (rd x3_1 x4_2)) = false := bne_eq_false_iff_eq.mpr c11
                   clear c11
                   obtain rfl := Option.some.inj H
                   have p455 : 0 ≤ ((ji7) : Int) := pD
                   have q455 : (ji7) < (x3_1.length : Int) := pD
                   obtain ⟨ad455, e455, hx455_0⟩ := Kd.at_int (Kd.V_reads' HO_3.out).2.2 (ji7) p455 q455
                   cases e455; replace p455 := eq_true p455; replace q455 := eq_true q455
                   have p456 : 0 ≤ (x4_2 : Int) := pD
                   have q456 : x4_2 < (x3_1.length : Int) := pD
                   obtain ⟨ad456, e456, hx456_0⟩ := Kd.at_int (Kd.V_reads' HO_3.out).2.2 x4_2 p456 q456
                   obtain rfl : ad455 = ad456 := (by injection e456)
                   replace p456 := eq_true p456; replace q456 := eq_true q456
                   go_wp2
                   repeat (go_quiet (fail); try go_wp2)
                   go_ret
                   exact ⟨by first | rfl | (simp [errW_none, errW_some] <;> rfl) | (simp only [← hji7]; first | rfl | (simp [errW_none, errW_some] <;> rfl)) | (simp [*, errW_none, errW_some] <;> rfl), pB⟩
                 · rw [if_neg c11] at H
                   have c11b0 : ((rd x3_1 (ji7)) == (rd x3_1 x4_2)) = false := beq_eq_false_iff_ne.mpr c11
                   have c11b1 : ((rd x3_1 (ji7)) != (rd x3_1 x4_2)) = true := bne_iff_ne.mpr c11
                   have H' := Aside0.mk H
                   clear H
                   have p455 : 0 ≤ ((ji7) : Int) := pD
                   have q455 : (ji7) < (x3_1.length : Int) := pD
                   obtain ⟨ad455, e455, hx455_0⟩ := Kd.at_int (Kd.V_reads' HO_3.out).2.2 (ji7) p455 q455
                   cases e455; replace p455 := eq_true p455; replace q455 := eq_true q455
                   have p456 : 0 ≤ (x4_2 : Int) := pD
                   have q456 : x4_2 < (x3_1.length : Int) := pD
                   obtain ⟨ad456, e456, hx456_0⟩ := Kd.at_int (Kd.V_reads' HO_3.out).2.2 x4_2 p456 q456
                   obtain rfl : ad455 = ad456 := (by injection e456)
                   replace p456 := eq_true p456; replace q456 := eq_true q456
                   go_wp2
                   repeat (go_quiet (fail); try go_wp2)
                   go_roundg k2
                   case measure => have := HK1.out; have := HK2.out; omega
                   case rel => exact ⟨(wrap64 (x4_2 + 2)), pF, H', ⟨by have := HK1.out; have := HK2.out; omega⟩, ⟨by (with_reducible repeat (first | apply Kd.V_alloc | apply Kd.V_drewN | apply Kd.V_drew)); exact HO_3.out⟩, ⟨pB⟩⟩
               · rw [if_neg c10] at H
                 exact absurd H (by simp)
             · rw [if_neg c9] at H
               exact absurd H (by simp)
           · rw [if_neg c8] at H
             exact absurd H (by simp)
         · rw [if_neg c6] at H
           have c6b0 : decide (x4_2 < (x3_1.length : Int)) = false := decide_eq_false c6
           clear c6
           obtain ⟨t457, A120, H⟩ := bO H
           replace H : (impl_HasTwin.l0 k2 t457) = some r := H
           have A12 := Aside0.mk A120; clear A120
           have H' := Aside0.mk H
           clear H
           go_wp2_with (first | (go_at_call 135; (with_reducible refine (impl_above.calls k2 _ _ x3_1 t457 _ ?side1 ?side2 A12.out).mono ?_); (case side1 => exact pC (Kd.V_reads' HO_3.out).2.2); (case side2 => exact (Kd.V_reads' HO_3.out).2.1); rintro e w13 ⟨v458, rfl, ho0, hb⟩; have n_ := t3 (Kd.V_elder' (by (with_reducible repeat (first | apply Kd.V_alloc | apply Kd.V_drewN | apply Kd.V_drew)); exact HO_3.out) (Kd.R_base ho0) hb) (Kd.R_lower (Kd.R_newM (M := fun k_ => (w.heap.size ≤ k_)) ho0 (below_size pB) (fun k_ h_ => h_)) (below_size pB)) (below_step pB hb); clear HO_3 HB; obtain ⟨HO_3, HO459, HB⟩ := n_; (try clear hb); (try clear ho0)))
           repeat (go_quiet (first | (go_at_call 135; (with_reducible refine (impl_above.calls k2 _ _ x3_1 t457 _ ?side1 ?side2 A12.out).mono ?_); (case side1 => exact pC (Kd.V_reads' HO_3.out).2.2); (case side2 => exact (Kd.V_reads' HO_3.out).2.1); rintro e w13 ⟨v458, rfl, ho0, hb⟩; have n_ := t3 (Kd.V_elder' (by (with_reducible repeat (first | apply Kd.V_alloc | apply Kd.V_drewN | apply Kd.V_drew)); exact HO_3.out) (Kd.R_base ho0) hb) (Kd.R_lower (Kd.R_newM (M := fun k_ => (w.heap.size ≤ k_)) ho0 (below_size pB) (fun k_ h_ => h_)) (below_size pB)) (below_step pB hb); clear HO_3 HB; obtain ⟨HO_3, HO459, HB⟩ := n_; (try clear hb); (try clear ho0))); try go_wp2_with (first | (go_at_call 135; (with_reducible refine (impl_above.calls k2 _ _ x3_1 t457 _ ?side1 ?side2 A12.out).mono ?_); (case side1 => exact pC (Kd.V_reads' HO_3.out).2.2); (case side2 => exact (Kd.V_reads' HO_3.out).2.1); rintro e w13 ⟨v458, rfl, ho0, hb⟩; have n_ := t3 (Kd.V_elder' (by (with_reducible repeat (first | apply Kd.V_alloc | apply Kd.V_drewN | apply Kd.V_drew)); exact HO_3.out) (Kd.R_base ho0) hb) (Kd.R_lower (Kd.R_newM (M := fun k_ => (w.heap.size ≤ k_)) ho0 (below_size pB) (fun k_ h_ => h_)) (below_size pB)) (below_step pB hb); clear HO_3 HB; obtain ⟨HO_3, HO459, HB⟩ := n_; (try clear hb); (try clear ho0))))
           go_roundg k2
           case measure => have := HK1.out; have := HK2.out; omega
           case rel => exact ⟨(t457), H', ⟨by have := HK1.out; have := HK2.out; omega⟩, ⟨Kd.V_mono (Kd.R_V (pT (Kd.R_mono HO459.out (fun _ hk => hk.1)))) (fun k_ hk => by first | exact ⟨(.inr (hk.1)), hk.2⟩ | exact (.inr (hk)))⟩, ⟨pB⟩⟩
     · rw [if_neg c4] at H
       have c4b0 : decide (1 < (x3_1.length : Int)) = false := decide_eq_false c4
       have c4b1 : decide (1 < x3_1.length) = false := decide_eq_false (by omega)
       clear c4
       obtain rfl := Option.some.inj H
       obtain ⟨Ao14, co14, eo14⟩ := Kd.V_slice HO_3.out
       subst eo14
       go_wp2
       repeat (go_quiet (fail); try go_wp2)
       go_ret
       exact ⟨pE, pB⟩
 · rw [if_neg c3] at H
   have c3b0 : (t454 == 0) = false := beq_eq_false_iff_ne.mpr c3
   have c3b1 : (t454 != 0) = true := bne_iff_ne.mpr c3
   obtain rfl := Option.some.inj H
   go_enter Try.func94, Try.ntmps94
   go_wp2_with (first | (go_at_call 134; (with_reducible refine (impl_leavesFault.calls k _ _ l0 t454 _ ?side1 ?side2 A2.out).mono ?_); (case side1 => exact pC (Kd.V_reads' HO0.out).2.2); (case side2 => exact (Kd.V_reads' HO0.out).2.1); rintro e w' ⟨rfl, ⟨nd, rfl⟩⟩; (try first | exact ⟨rfl, _, World.drewN_drewN _ _ _⟩ | exact ⟨rfl, _, Eq.trans (World.drewN_drewN _ _ _) (congrArg (World.drewN _) (Nat.add_assoc _ _ _))⟩)))
   repeat (go_quiet (first | (go_at_call 134; (with_reducible refine (impl_leavesFault.calls k _ _ l0 t454 _ ?side1 ?side2 A2.out).mono ?_); (case side1 => exact pC (Kd.V_reads' HO0.out).2.2); (case side2 => exact (Kd.V_reads' HO0.out).2.1); rintro e w' ⟨rfl, ⟨nd, rfl⟩⟩; (try first | exact ⟨rfl, _, World.drewN_drewN _ _ _⟩ | exact ⟨rfl, _, Eq.trans (World.drewN_drewN _ _ _) (congrArg (World.drewN _) (Nat.add_assoc _ _ _))⟩))); try go_wp2_with (first | (go_at_call 134; (with_reducible refine (impl_leavesFault.calls k _ _ l0 t454 _ ?side1 ?side2 A2.out).mono ?_); (case side1 => exact pC (Kd.V_reads' HO0.out).2.2); (case side2 => exact (Kd.V_reads' HO0.out).2.1); rintro e w' ⟨rfl, ⟨nd, rfl⟩⟩; (try first | exact ⟨rfl, _, World.drewN_drewN _ _ _⟩ | exact ⟨rfl, _, Eq.trans (World.drewN_drewN _ _ _) (congrArg (World.drewN _) (Nat.add_assoc _ _ _))⟩))))
   go_ret
   exact ⟨pE, pB⟩
def impl_putVar.f (a0 : Int) : Option (List Int) := if a0 < 253 then (some (([(a0) % 256] : List Int))) else (some (([253, (a0) % 256, (a0 / 256) % 256] : List Int)))
theorem impl_putVar.calls (a0 : Int) (r : List Int) (w : World) (h : impl_putVar.f a0 = some r) :
 Calls Try.prog 79 #[.int .i64 a0] w fun e w' => ∃ v0_ : Value, e = .returned (v0_) ∧ Kd.R (Kd.int .u8) 5 w' w.heap.size (fun _ => True) v0_ r ∧ Below w.heap.size w w' := by
 have HB := Aside0.mk (Below.refl w.heap.size w)
 have H : (if a0 < 253 then (some (([(a0) % 256] : List Int))) else (some (([253, (a0) % 256, (a0 / 256) % 256] : List Int)))) = some r := h
 clear h
 by_cases c2 : a0 < 253
 · rw [if_pos c2] at H
   have c2b0 : decide (a0 < 253) = true := decide_eq_true c2
   clear c2
   obtain ⟨y460, hy460⟩ : ∃ y_ : List Int, y_ = (([(a0) % 256] : List Int)) := ⟨_, rfl⟩
   replace H : (some y460) = some r := by first | (rw [hy460]; with_reducible exact H) | (have H2_ := (Option.bind_some _ _).symm.trans H; rw [hy460]; with_reducible exact H2_) | (have H2_ := (Option.bind_some _ _).symm.trans H; with_reducible exact H2_) | with_reducible exact H | (rw [hy460]; exact H) | exact H
   have Ny460 := Aside0.mk hy460; clear hy460
   obtain rfl := Option.some.inj H
   go_enter Try.func79, Try.ntmps79
   go_wp2_with (first | ((with_reducible refine gate_dst (N := 7) rfl ?_); refine Kd.R_lit (Kd.int .u8) _ 5 ?hg (N := 7) ?hd (xs := ([(a0) % 256] : List Int)) (inner := [.int .u8 ((a0) % 256)]) (ok := fun _ => True) (okp := fun _ => True) ?hr ?hp (fun _ hk => hk) trivial (Below.refl _ _) (Nat.le_refl _) (by simp) ?_; (case hd => rfl); (case hg => rfl); (case hr => first | (go_simp; done) | (go_simp; rfl)); (case hp => exact (Reps.one (show Kd.M (Kd.int .u8) _ _ _ ((a0) % 256) [.int .u8 ((a0) % 256)] from rfl) (Reps.none _ _))); intro v461 w3 ho4 hb hg_ hnew_; clear hg_ hnew_; (first | rw [← Ny460.out] at ho4 | (simp only [Int.reduceToNat] at ho4; rw [← Ny460.out] at ho4)); have n_ := t2 (Kd.R_lower ho4 (below_size pB)) (below_step pB hb); clear HB; obtain ⟨HO462, HB⟩ := n_; clear hb ho4))
   go_ret
   exact ⟨_, pE, (pR HO462), pB⟩
 · rw [if_neg c2] at H
   have c2b0 : decide (a0 < 253) = false := decide_eq_false c2
   clear c2
   obtain ⟨y463, hy463⟩ : ∃ y_ : List Int, y_ = (([253, (a0) % 256, (a0 / 256) % 256] : List Int)) := ⟨_, rfl⟩
   replace H : (some y463) = some r := by first | (rw [hy463]; with_reducible exact H) | (have H2_ := (Option.bind_some _ _).symm.trans H; rw [hy463]; with_reducible exact H2_) | (have H2_ := (Option.bind_some _ _).symm.trans H; with_reducible exact H2_) | with_reducible exact H | (rw [hy463]; exact H) | exact H
   have Ny463 := Aside0.mk hy463; clear hy463
   obtain rfl := Option.some.inj H
   go_enter Try.func79, Try.ntmps79
   go_wp2_with (first | ((with_reducible refine gate_dst (N := 13) rfl ?_); refine Kd.R_lit (Kd.int .u8) _ 5 ?hg (N := 13) ?hd (xs := ([253, (a0) % 256, (a0 / 256) % 256] : List Int)) (inner := [.int .u8 253, .int .u8 ((a0) % 256), .int .u8 ((a0 / 256) % 256)]) (ok := fun _ => True) (okp := fun _ => True) ?hr ?hp (fun _ hk => hk) trivial (Below.refl _ _) (Nat.le_refl _) (by simp) ?_; (case hd => rfl); (case hg => rfl); (case hr => first | (go_simp; done) | (go_simp; rfl)); (case hp => exact (Reps.one (show Kd.M (Kd.int .u8) _ _ _ 253 [.int .u8 253] from rfl) (Reps.one (show Kd.M (Kd.int .u8) _ _ _ ((a0) % 256) [.int .u8 ((a0) % 256)] from rfl) (Reps.one (show Kd.M (Kd.int .u8) _ _ _ ((a0 / 256) % 256) [.int .u8 ((a0 / 256) % 256)] from rfl) (Reps.none _ _))))); intro v464 w5 ho6 hb hg_ hnew_; clear hg_ hnew_; (first | rw [← Ny463.out] at ho6 | (simp only [Int.reduceToNat] at ho6; rw [← Ny463.out] at ho6)); have n_ := t2 (Kd.R_lower ho6 (below_size pB)) (below_step pB hb); clear HB; obtain ⟨HO465, HB⟩ := n_; clear hb ho6))
   go_ret
   exact ⟨_, pE, (pR HO465), pB⟩
-- NOT PRINTED: function 140 (slices_Grow_byte_byte)
def slices_Grow_at_nil.f (a0 : Int) : Option (List Int) := if 0 ≤ a0 then (if a0 ≤ 70368744177664 then some [] else none) else none
set_option maxHeartbeats 1000000 in
set_option maxRecDepth 100000 in
theorem slices_Grow_at_nil.calls (a0 : Int) (r : List Int) (w : World) (h : slices_Grow_at_nil.f a0 = some r) :
 Calls Try.prog 140 #[.slice none 0 0, .int .i64 a0] w fun e w' => ∃ v0_ : Value, e = .returned (v0_) ∧ Kd.R (Kd.int .u8) 5 w' w.heap.size (fun _ => True) v0_ r ∧ Below w.heap.size w w' := by
 unfold slices_Grow_at_nil.f at h
 by_cases h0 : 0 ≤ a0
 · rw [if_pos h0] at h
   by_cases hl : a0 ≤ 70368744177664
   · rw [if_pos hl] at h
     obtain rfl := Option.some.inj h
     clear h
     by_cases hz : a0 = 0
     · subst hz
       go_enter Try.func140, Try.ntmps140
       go_wp2
       go_ret
       exact ⟨_, rfl, Kd.R_nil _ _ _ _ _, Below.refl _ _⟩
     · have hp : decide (0 < wrap64 a0) = true := decide_eq_true (by unfold wrap64; omega)
       have hn : decide (a0 < 0) = false := decide_eq_false (by omega)
       have hw : wrap64 a0 = a0 := by unfold wrap64; omega
       have H0 := Aside0.mk (show 0 ≤ wrap64 a0 by rw [hw]; exact h0)
       have HL := Aside0.mk (show wrap64 a0 ≤ 70368744177664 by rw [hw]; exact hl)
       clear hw; clear hz hl h0
       go_enter Try.func140, Try.ntmps140
       go_wp2_with (first | (at_builtin; refine Kd.R_append_zeros (Kd.int .u8) (w0 := w) w.heap.size rfl (.tmp 20) (.tmp 21) 22 3 5 (.int .u8 0) 1 rfl Try.underlying22 Try.underlying3 info5 rfl (by decide) (by omega) (.slice none 0 0) [] 0 (wrap64 a0) (fun _ => True) rfl rfl rfl (fun _ _ => trivial) (Kd.R_nil _ _ _ _ _) H0.out (Below.refl _ _) (Nat.le_refl _) (by have := HL.out; have := H0.out; simp only [List.length_nil]; omega) ?_; intro v1 w1 hR hB hg hat; (try clear hg hat); obtain ⟨A1, c1, rfl⟩ := Kd.R_slice hR; have HR := Aside0.mk hR; have HB := Aside0.mk hB; clear hR hB))
       go_ret
       exact ⟨_, rfl, by have := Kd.R_take HR.out (m := 0) (by simp); simpa using this, HB.out⟩
   · rw [if_neg hl] at h; exact absurd h (by simp)
 · rw [if_neg h0] at h; exact absurd h (by simp)
mutual
def slices_Concat_byte_byte.l0 : Nat → List (List Int) → Int → List (List Int) → Int → Int → Option (List Int)
 | 0, _, _, _, _, _ => none
 | k + 1, x0, x3, x9, x10, x11 => if x11 < x10 then (if 0 ≤ x11 then (if x11 < (x9.length : Int) then (if (wrap64 (x3 + ((rd_L15 x9 x11).length : Int))) < 0 then (none) else (slices_Concat_byte_byte.l0 k x0 (wrap64 (x3 + ((rd_L15 x9 x11).length : Int))) x9 x10 (wrap64 (x11 + 1)))) else (none)) else (none)) else ((slices_Grow_at_nil.f x3).bind fun t467 => (slices_Concat_byte_byte.l1 k t467 x0 (x0.length : Int) 0))
def slices_Concat_byte_byte.l1 : Nat → List Int → List (List Int) → Int → Int → Option (List Int)
 | 0, _, _, _, _ => none
 | k + 1, x6, x25, x26, x27 => if x27 < x26 then (if 0 ≤ x27 then (if x27 < (x25.length : Int) then (if x6.length + (rd_L15 x25 x27).length < 140737488355328 then (slices_Concat_byte_byte.l1 k (x6 ++ (rd_L15 x25 x27)) x25 x26 (wrap64 (x27 + 1))) else (none)) else (none)) else (none)) else (some x6)
end
def slices_Concat_byte_byte.f (k : Nat) (l0 : List (List Int)) : Option (List Int) := slices_Concat_byte_byte.l0 k l0 0 l0 (l0.length : Int) 0
theorem slices_Concat_byte_byte.mono_l : ∀ k, (∀ y0 y1 y2 y3 y4, LeO (slices_Concat_byte_byte.l0 k y0 y1 y2 y3 y4) (slices_Concat_byte_byte.l0 (k + 1) y0 y1 y2 y3 y4)) ∧ (∀ y0 y1 y2 y3, LeO (slices_Concat_byte_byte.l1 k y0 y1 y2 y3) (slices_Concat_byte_byte.l1 (k + 1) y0 y1 y2 y3))
 | 0 => ⟨fun _ _ _ _ _ r h => by simp [slices_Concat_byte_byte.l0] at h, fun _ _ _ _ r h => by simp [slices_Concat_byte_byte.l1] at h⟩
 | k + 1 => by
  obtain ⟨ih0, ih1⟩ := slices_Concat_byte_byte.mono_l k
  refine ⟨?_, ?_⟩
  · intro y0 y1 y2 y3 y4
    unfold slices_Concat_byte_byte.l0
    repeat' with_reducible first | exact ih0 _ _ _ _ _ | exact ih1 _ _ _ _ | exact LeO.refl _ | exact LeO.none _ | refine LeO.ite ?_ ?_ | refine LeO.bind ?_ (fun _ => ?_)
  · intro y0 y1 y2 y3
    unfold slices_Concat_byte_byte.l1
    repeat' with_reducible first | exact ih0 _ _ _ _ _ | exact ih1 _ _ _ _ | exact LeO.refl _ | exact LeO.none _ | refine LeO.ite ?_ ?_ | refine LeO.bind ?_ (fun _ => ?_)
theorem slices_Concat_byte_byte.mono : ∀ a0 k, LeO (slices_Concat_byte_byte.f k a0) (slices_Concat_byte_byte.f (k + 1) a0) := by
 intro a0 k
 obtain ⟨ih0, ih1⟩ := slices_Concat_byte_byte.mono_l k
 unfold slices_Concat_byte_byte.f
 repeat' with_reducible first | exact ih0 _ _ _ _ _ | exact ih1 _ _ _ _ | exact LeO.refl _ | exact LeO.none _ | refine LeO.ite ?_ ?_ | refine LeO.bind ?_ (fun _ => ?_)
theorem slices_Concat_byte_byte.calls (k : Nat) (A0 : Option Addr) (c0 : Nat) (l0 : List (List Int)) (r : List Int) (w : World) (hr0 : Kd.C (Kd.slice 5 (Kd.int .u8)) w A0 l0.length l0) (hc0 : l0.length ≤ c0) (h : slices_Concat_byte_byte.f k l0 = some r) :
 Calls Try.prog 104 #[.slice A0 l0.length c0] w fun e w' => ∃ v0_ : Value, e = .returned (v0_) ∧ Kd.R (Kd.int .u8) 5 w' w.heap.size (fun _ => True) v0_ r ∧ Below w.heap.size w w' := by
 have HR0 := Aside0.mk hr0; have HC0 := Aside0.mk hc0; clear hr0 hc0
 have HB := Aside0.mk (Below.refl w.heap.size w)
 have H : (slices_Concat_byte_byte.l0 k l0 0 l0 (l0.length : Int) 0) = some r := h
 clear h
 have H' := Aside0.mk H
 clear H
 go_enter Try.func104, Try.ntmps104
 go_wp2
 go_loopg [3, 11] k (fun kq v3 v11 w' => ∃ (x3_1 : Int) (x11_1 : Int), v3 = .int .i64 x3_1 ∧ v11 = .int .i64 x11_1 ∧ Aside0 (slices_Concat_byte_byte.l0 kq l0 x3_1 l0 (l0.length : Int) x11_1 = some r) ∧ Aside0 (kq ≤ k) ∧ Aside0 (Below w.heap.size w w'))
 case atStart => exact ⟨(0), (0), pF, pF, H', ⟨Nat.le_refl _⟩, ⟨pB⟩⟩
 case round =>
  clear H'
  (try clear c1)
  obtain ⟨x3_1, x11_1, rfl, rfl, HA, HK1, HB⟩ := hrel
  cases gk with
  | zero => exact absurd HA.out (by simp [slices_Concat_byte_byte.l0])
  | succ k1 =>
   have H := HA.out
   clear HA
   simp only [slices_Concat_byte_byte.l0] at H
   by_cases c2 : x11_1 < (l0.length : Int)
   · rw [if_pos c2] at H
     have c2b0 : decide (x11_1 < (l0.length : Int)) = true := decide_eq_true c2
     clear c2
     by_cases c3 : 0 ≤ x11_1
     · rw [if_pos c3] at H
       have c3b0 : decide (0 ≤ x11_1) = true := decide_eq_true c3
       clear c3
       by_cases c4 : x11_1 < (l0.length : Int)
       · rw [if_pos c4] at H
         have c4b0 : decide (x11_1 < (l0.length : Int)) = true := decide_eq_true c4
         clear c4
         by_cases c5 : (wrap64 (x3_1 + ((rd_L15 l0 x11_1).length : Int))) < 0
         · rw [if_pos c5] at H
           exact absurd H (by simp)
         · rw [if_neg c5] at H
           have c5b0 : decide ((wrap64 (x3_1 + ((rd_L15 l0 x11_1).length : Int))) < 0) = false := decide_eq_false c5
           clear c5
           have H' := Aside0.mk H
           clear H
           have p466 : 0 ≤ (x11_1 : Int) := pD
           have q466 : x11_1 < (l0.length : Int) := pD
           obtain ⟨ad466, A466_0, c466_0, e466, hx466_0, hl466_0, hi466_0⟩ := at_L15 HR0.out x11_1 p466 q466
           cases e466; replace hx466_0 := cb HB hx466_0; have HR466_0 := Aside0.mk hi466_0; have HC466_0 := Aside0.mk hl466_0; clear hi466_0 hl466_0; replace p466 := eq_true p466; replace q466 := eq_true q466
           go_wp2
           go_roundg k1
           case measure => have := HK1.out; omega
           case rel => exact ⟨(wrap64 (x3_1 + ((rd_L15 l0 x11_1).length : Int))), (wrap64 (x11_1 + 1)), pF, pF, H', ⟨by have := HK1.out; omega⟩, ⟨pB⟩⟩
       · rw [if_neg c4] at H
         exact absurd H (by simp)
     · rw [if_neg c3] at H
       exact absurd H (by simp)
   · rw [if_neg c2] at H
     have c2b0 : decide (x11_1 < (l0.length : Int)) = false := decide_eq_false c2
     clear c2
     obtain ⟨t467, A60, H⟩ := bO H
     replace H : (slices_Concat_byte_byte.l1 k1 t467 l0 (l0.length : Int) 0) = some r := H
     have A6 := Aside0.mk A60; clear A60
     have H' := Aside0.mk H
     clear H
     go_wp2_with (first | ((with_reducible refine gate_callee (f := 140) rfl ?_); refine goesL_ (some 24) rfl rfl Try.func140 (by kernel_rfl) rfl #[.slice none 0 0, .int .i64 x3_1] rfl pA ?_; (with_reducible refine (slices_Grow_at_nil.calls x3_1 t467 _ A6.out).mono ?_); rintro e w7 ⟨v468, rfl, ho0, hb⟩; refine ⟨_, rfl, ?_⟩; have n_ := t2 (Kd.R_lower ho0 (below_size pB)) (below_step pB hb); clear HB; obtain ⟨HO469, HB⟩ := n_; (try clear hb); (try clear ho0)))
     go_loopg [6, 27] k1 (fun kq v6 v27 w' => ∃ (x6_2 : List Int) (x27_2 : Int), v27 = .int .i64 x27_2 ∧ Aside0 (slices_Concat_byte_byte.l1 kq x6_2 l0 (l0.length : Int) x27_2 = some r) ∧ Aside0 (kq ≤ k1) ∧ Aside0 (Kd.R (Kd.int .u8) 5 w' w.heap.size (fun _ => True) v6 x6_2) ∧ Aside0 (Below w.heap.size w w'))
     case atStart => exact ⟨(t467), (0), pF, H', ⟨Nat.le_refl _⟩, ⟨(pR HO469)⟩, ⟨pB⟩⟩
     case round =>
      clear H'
      (try clear c1); (try clear c2); (try clear c2b0); (try clear p2); (try clear c3); (try clear c3b0); (try clear c4); (try clear c4b0); (try clear p4); (try clear q4); (try clear hx4); (try clear c5); (try clear c5b0); (try clear p6); (try clear hx466_0); (try clear p466); (try clear q466)
      obtain ⟨x6_2, x27_2, rfl, HA, HK2, HO_6, HB⟩ := hrel
      cases gk with
      | zero => exact absurd HA.out (by simp [slices_Concat_byte_byte.l1])
      | succ k2 =>
       have H := HA.out
       clear HA
       simp only [slices_Concat_byte_byte.l1] at H
       by_cases c8 : x27_2 < (l0.length : Int)
       · rw [if_pos c8] at H
         have c8b0 : decide (x27_2 < (l0.length : Int)) = true := decide_eq_true c8
         clear c8
         by_cases c9 : 0 ≤ x27_2
         · rw [if_pos c9] at H
           have c9b0 : decide (0 ≤ x27_2) = true := decide_eq_true c9
           clear c9
           by_cases c10 : x27_2 < (l0.length : Int)
           · rw [if_pos c10] at H
             have c10b0 : decide (x27_2 < (l0.length : Int)) = true := decide_eq_true c10
             clear c10
             by_cases c11 : x6_2.length + (rd_L15 l0 x27_2).length < 140737488355328
             · rw [if_pos c11] at H
               have LMc11 := Aside0.mk c11; clear c11
               obtain ⟨y471, hy471⟩ : ∃ y_ : List Int, y_ = (x6_2 ++ (rd_L15 l0 x27_2)) := ⟨_, rfl⟩
               replace H : (slices_Concat_byte_byte.l1 k2 y471 l0 (l0.length : Int) (wrap64 (x27_2 + 1))) = some r := by first | (rw [hy471]; with_reducible exact H) | (have H2_ := (Option.bind_some _ _).symm.trans H; rw [hy471]; with_reducible exact H2_) | (have H2_ := (Option.bind_some _ _).symm.trans H; with_reducible exact H2_) | with_reducible exact H | (rw [hy471]; exact H) | exact H
               have Ny471 := Aside0.mk hy471; clear hy471
               have H' := Aside0.mk H
               clear H
               have p470 : 0 ≤ (x27_2 : Int) := pD
               have q470 : x27_2 < (l0.length : Int) := pD
               obtain ⟨ad470, A470_0, c470_0, e470, hx470_0, hl470_0, hi470_0⟩ := at_L15 HR0.out x27_2 p470 q470
               cases e470; replace hx470_0 := cb HB hx470_0; have HR470_0 := Aside0.mk hi470_0; have HC470_0 := Aside0.mk hl470_0; clear hi470_0 hl470_0; replace p470 := eq_true p470; replace q470 := eq_true q470
               go_wp2_with (first | ((with_reducible refine gate_builtin (b := .append) (xs := #[.tmp 31, .tmp 32]) rfl ?_); at_builtin; refine Kd.R_append_rows (Kd.int .u8) (w0 := w) w.heap.size rfl (.tmp 31) (.tmp 32) 22 5 (.int .u8 0) 1 rfl Try.underlying22 info5 rfl (by decide) (by omega) u6 x6_2 (rd_L15 l0 x27_2) _ _ _ (fun _ => True) (fun _ => False) rfl rfl ?aO ?aR (fun _ _ h => h) (fun _ h => h.elim) ?aF ?aB ?aS ?aL ?_; (case aR => exact pC (Kd.C_below HR470_0.out HB.out)); (case aB => exact pB); (case aF => exact (fun _ _ => trivial)); (case aO => exact (pR HO_6)); (case aS => exact (below_size pB)); (case aL => have := LMc11.out; omega); intro v472 w12 ho hb hg hat; rw [← Ny471.out] at ho; have n_ := t2 (hb) (ho); clear HB HO_6; obtain ⟨HB, HO473⟩ := n_; clear ho hb hg hat))
               go_roundg k2
               case measure => have := HK1.out; have := HK2.out; omega
               case rel => exact ⟨(y471), (wrap64 (x27_2 + 1)), pF, H', ⟨by have := HK1.out; have := HK2.out; omega⟩, ⟨(pR HO473)⟩, ⟨pB⟩⟩
             · rw [if_neg c11] at H
               exact absurd H (by simp)
           · rw [if_neg c10] at H
             exact absurd H (by simp)
         · rw [if_neg c9] at H
           exact absurd H (by simp)
       · rw [if_neg c8] at H
         have c8b0 : decide (x27_2 < (l0.length : Int)) = false := decide_eq_false c8
         clear c8
         obtain rfl := Option.some.inj H
         go_wp2
         go_ret
         exact ⟨_, pE, (pR HO_6), pB⟩
def impl_halves.f (a0 : Int) : Option (List Int) := (impl_putVar.f (Int.tmod a0 65536)).bind fun t474 => ((impl_putVar.f (wrap64 (Int.tdiv a0 65536))).bind fun t477 => (if t474.length + t477.length < 140737488355328 then (some (t474 ++ t477)) else (none)))
theorem impl_halves.calls (a0 : Int) (r : List Int) (w : World) (h : impl_halves.f a0 = some r) :
 Calls Try.prog 105 #[.int .i64 a0] w fun e w' => ∃ v0_ : Value, e = .returned (v0_) ∧ Kd.R (Kd.int .u8) 5 w' w.heap.size (fun _ => True) v0_ r ∧ Below w.heap.size w w' := by
 have HB := Aside0.mk (Below.refl w.heap.size w)
 have H : ((impl_putVar.f (Int.tmod a0 65536)).bind fun t474 => ((impl_putVar.f (wrap64 (Int.tdiv a0 65536))).bind fun t477 => (if t474.length + t477.length < 140737488355328 then (some (t474 ++ t477)) else (none)))) = some r := h
 clear h
 obtain ⟨t474, A20, H⟩ := bO H
 replace H : ((impl_putVar.f (wrap64 (Int.tdiv a0 65536))).bind fun t477 => (if t474.length + t477.length < 140737488355328 then (some (t474 ++ t477)) else (none))) = some r := H
 have A2 := Aside0.mk A20; clear A20
 obtain ⟨t477, A30, H⟩ := bO H
 replace H : (if t474.length + t477.length < 140737488355328 then (some (t474 ++ t477)) else (none)) = some r := H
 have A3 := Aside0.mk A30; clear A30
 by_cases c4 : t474.length + t477.length < 140737488355328
 · rw [if_pos c4] at H
   have LMc4 := Aside0.mk c4; clear c4
   obtain ⟨y480, hy480⟩ : ∃ y_ : List Int, y_ = (t474 ++ t477) := ⟨_, rfl⟩
   replace H : (some y480) = some r := by first | (rw [hy480]; with_reducible exact H) | (have H2_ := (Option.bind_some _ _).symm.trans H; rw [hy480]; with_reducible exact H2_) | (have H2_ := (Option.bind_some _ _).symm.trans H; with_reducible exact H2_) | with_reducible exact H | (rw [hy480]; exact H) | exact H
   have Ny480 := Aside0.mk hy480; clear hy480
   obtain rfl := Option.some.inj H
   go_enter Try.func105, Try.ntmps105
   go_wp2_with (first | ((with_reducible refine gate_callee (f := 79) rfl ?_); refine goesL_ (some 5) rfl rfl Try.func79 (by kernel_rfl) rfl #[.int .i64 (Int.tmod a0 65536)] rfl pA ?_; (with_reducible refine (impl_putVar.calls (Int.tmod a0 65536) t474 _ A2.out).mono ?_); rintro e w5 ⟨v475, rfl, ho0, hb⟩; refine ⟨_, rfl, ?_⟩; have n_ := t2 (Kd.R_lower ho0 (below_size pB)) (below_step pB hb); clear HB; obtain ⟨HO476, HB⟩ := n_; (try clear hb); (try clear ho0)) | ((with_reducible refine gate_callee (f := 79) rfl ?_); refine goesL_ (some 8) rfl rfl Try.func79 (by kernel_rfl) rfl #[.int .i64 (wrap64 (Int.tdiv a0 65536))] rfl pA ?_; (with_reducible refine (impl_putVar.calls (wrap64 (Int.tdiv a0 65536)) t477 _ A3.out).mono ?_); rintro e w6 ⟨v478, rfl, ho0, hb⟩; refine ⟨_, rfl, ?_⟩; have n_ := t3 (Kd.R_elder' (pR HO476) (Kd.R_base ho0) hb) (Kd.R_lower (Kd.R_new' ho0 (Kd.R_lt (pR HO476))) (below_size pB)) (below_step pB hb); clear HO476 HB; obtain ⟨HO476, HO479, HB⟩ := n_; (try clear hb); (try clear ho0); obtain ⟨Ao8, co8, eo8⟩ := Kd.R_slice HO479.out; subst eo8) | ((with_reducible refine gate_builtin (b := .append) (xs := #[.tmp 5, .tmp 8]) rfl ?_); at_builtin; refine Kd.R_append_rows (Kd.int .u8) (w0 := w) w.heap.size rfl (.tmp 5) (.tmp 8) 22 5 (.int .u8 0) 1 rfl Try.underlying22 info5 rfl (by decide) (by omega) v475 t474 t477 _ _ _ (fun k_ => some k_ ≠ (.slice Ao8 t477.length co8 : Value).ownBlock) (fun _ => False) rfl rfl ?aO ?aR (fun _ _ h => h) (fun _ h => h.elim) ?aF ?aB ?aS ?aL ?_; (case aR => exact pC (Kd.R_reads' HO479.out).2.2); (case aB => exact pB); (case aF => exact (fun k_ hk => Kd.fresh' (Kd.R_lt (pR HO479)) k_ hk)); (case aO => exact (pT (Kd.R_mono HO476.out (fun _ hk => hk.2)))); (case aS => exact (below_size pB)); (case aL => have := LMc4.out; omega); intro v481 w7 ho hb hg hat; rw [← Ny480.out] at ho; have n_ := t3 (Kd.R_after (ok := (fun _ => True)) (pR HO479) hg hat) (hb) (ho); clear HO479 HB HO476; obtain ⟨HO479, HB, HO482⟩ := n_; clear ho hb hg hat))
   go_ret
   exact ⟨_, pE, (pT (Kd.R_mono HO482.out (fun _ hk => trivial))), pB⟩
 · rw [if_neg c4] at H
   exact absurd H (by simp)
end Go.Proofs.Ythjlbpgiaehjnaa.QFnExactBlockFault
