-- written by this session's program (wip/tools/myprint.py)
import Derived.Test.YtjmdfghljlmfmaaQFnExactHeaderSumx0
import Derived.Test.YtjmdfghljlmfmaaQFnExactHeaderSumx4
import Derived.Test.YtjmdfghljlmfmaaQFnExactHeaderSumx6
-- squeezed
namespace Go.Proofs.Ytjmdfghljlmfmaa.QFnExactHeaderSum
open Go.RowKit Go.Proofs.YtjmdfghljlmfmaaW.PrintWords Go.Proofs.YtjmdfghljlmfmaaW.PrintLast Go.Proofs.YtjmdfghljlmfmaaW.PrintMore
attribute [local go_sem] max2_int min2_int max_two min_two max_three min_three max_four min_four   -- for this text's walks alone
set_option linter.unusedVariables false
set_option linter.unusedSimpArgs false
set_option maxHeartbeats 8000000
set_option maxRecDepth 100000
def spec_l3Pack.f (k : Nat) (a0_0 : Int) (l0_1 : List (S77)) (l0_2 : List (S80)) (a1 : Bool) : Option (List Int) := spec_l3Pack_in.f k [(⟨a0_0, l0_1, l0_2⟩ : S54)] a1
theorem spec_l3Pack.mono : ∀ (a0_0 : Int) (l0_1 : List (S77)) (l0_2 : List (S80)) (a1 : Bool) (k : Nat), LeO (spec_l3Pack.f k a0_0 l0_1 l0_2 a1) (spec_l3Pack.f (k + 1) a0_0 l0_1 l0_2 a1) := fun a0_0 l0_1 l0_2 a1 k => spec_l3Pack_in.mono [(⟨a0_0, l0_1, l0_2⟩ : S54)] a1 k
set_option maxHeartbeats 8000000 in
theorem spec_l3Pack.calls (k : Nat) (a0_0 : Int) (A0_1 : Option Addr) (c0_1 : Nat) (l0_1 : List (S77)) (A0_2 : Option Addr) (c0_2 : Nat) (l0_2 : List (S80)) (a1 : Bool) (r : List Int) (w : World) (hr0_1 : Kd.C k77 w A0_1 l0_1.length l0_1) (hc0_1 : l0_1.length ≤ c0_1) (hr0_2 : Kd.C k80 w A0_2 l0_2.length l0_2) (hc0_2 : l0_2.length ≤ c0_2) (h : spec_l3Pack.f k a0_0 l0_1 l0_2 a1 = some r) {pp0 : Addr} (hpp0_0 : w.cell? pp0 = some (.int .i64 a0_0)) (hpp0_1 : w.cell? ⟨pp0.block, pp0.off + 1, none⟩ = some (.slice A0_1 l0_1.length c0_1)) (hpp0_2 : w.cell? ⟨pp0.block, pp0.off + 2, none⟩ = some (.slice A0_2 l0_2.length c0_2)) :
 Calls Try.prog 66 #[.pointer (some pp0), .bool a1] w fun e w' => ∃ v0_ : Value, e = .returned (v0_) ∧ Kd.R (Kd.int .u8) 5 w' w.heap.size (fun _ => True) v0_ r ∧ Below w.heap.size w w' := by
 have o0 : Kd.C k54 w (some pp0) 1 [(⟨a0_0, l0_1, l0_2⟩ : S54)] := by
  refine ⟨rfl, by decide, fun _ => ⟨pp0, rfl, fun j p hj => ?_⟩⟩
  cases j with
  | succ j => simp at hj
  | zero =>
   obtain rfl : (⟨a0_0, l0_1, l0_2⟩ : S54) = p := by simpa using hj
   refine ⟨_, rfl, k54_mk w _ hc0_1 hr0_1 hc0_2 hr0_2, fun i u hu => ?_⟩
   match i, hu with
   | 0, hu => obtain rfl := sj hu; exact hpp0_0
   | 1, hu => obtain rfl := sj hu; exact hpp0_1
   | 2, hu => obtain rfl := sj hu; exact hpp0_2
 exact spec_l3Pack_in.calls k (some pp0) 1 [(⟨a0_0, l0_1, l0_2⟩ : S54)] a1 r w o0 (Nat.le_refl 1) h
def spec_l3Sum_in.f (k : Nat) (l0 : List (S54)) : Option (Int) := if 0 < (l0.length : Int) then ((spec_l3Pack.f k ((rd_T54 l0 0).f0) ((rd_T54 l0 0).f1) ((rd_T54 l0 0).f2) false).bind fun t277 => ((spec_l1Sum.f k t277).bind fun t280 => (some t280))) else (none)
theorem spec_l3Sum_in.mono : ∀ a0 k, LeO (spec_l3Sum_in.f k a0) (spec_l3Sum_in.f (k + 1) a0) := by
 intro a0 k
 unfold spec_l3Sum_in.f
 repeat' with_reducible first | exact spec_l1Sum.mono _ _ | exact spec_l3Pack.mono _ _ _ _ _ | exact LeO.refl _ | exact LeO.none _ | refine LeO.ite ?_ ?_ | refine LeO.bind ?_ (fun _ => ?_)
theorem spec_l3Sum_in.calls (k : Nat) (A0 : Option Addr) (c0 : Nat) (l0 : List (S54)) (r : Int) (w : World) (hr0 : Kd.C k54 w A0 l0.length l0) (hc0 : l0.length ≤ c0) (h : spec_l3Sum_in.f k l0 = some r) :
 Calls Try.prog 43 #[.pointer A0] w fun e w' => e = .returned (.int .i64 r) ∧ Below w.heap.size w w' := by
 have hu54 := Try.underlying54
 have HR0 := am hr0; have HC0 := am hc0; clear hr0 hc0
 have HB := am (Below.refl w.heap.size w)
 have H : (if 0 < (l0.length : Int) then ((spec_l3Pack.f k ((rd_T54 l0 0).f0) ((rd_T54 l0 0).f1) ((rd_T54 l0 0).f2) false).bind fun t277 => ((spec_l1Sum.f k t277).bind fun t280 => (some t280))) else (none)) = some r := h
 clear h
 by_cases c2 : 0 < (l0.length : Int)
 · rw [if_pos c2] at H
   have c2b0 : decide (0 < (l0.length : Int)) = true := dt c2
   have c2b1 : decide (0 < l0.length) = true := dt (by omega)
   clear c2
   obtain ⟨t277, A30, H⟩ := bO H
   replace H : ((spec_l1Sum.f k t277).bind fun t280 => (some t280)) = some r := H
   have A3 := am A30; clear A30
   obtain ⟨t280, A40, H⟩ := bO H
   replace H : (some t280) = some r := H
   have A4 := am A40; clear A40
   obtain rfl := sj H
   have p276 : 0 ≤ (0 : Int) := (by omega)
   have q276 : 0 < (l0.length : Int) := pD
   obtain ⟨ad276, A276_1, c276_1, A276_2, c276_2, e276, hx276_0, hx276_1, hx276_2, hl276_1, hi276_1, hl276_2, hi276_2⟩ := at_T54 HR0.out 0 p276 q276
   cases e276
   have qi276 : (0 < l0.length) = True := eq_true (by omega)
   (try rw [z0, zm, az] at hx276_0); (try rw [z0, zm, az] at hx276_1); (try rw [z0, zm, az] at hx276_2); have HR276_1 := am hi276_1; have HC276_1 := am hl276_1; clear hi276_1 hl276_1; have HR276_2 := am hi276_2; have HC276_2 := am hl276_2; clear hi276_2 hl276_2; replace p276 := eq_true p276; replace q276 := eq_true q276
   go_enter Try.func43, Try.ntmps43
   go_wp2_with (first | ((with_reducible refine gC (f := 66) rfl ?_); refine goesL_ (some 4) rfl rfl Try.func66 (by kernel_rfl) rfl #[.pointer (some _), .bool false] rfl pA ?_; (refine Calls.mono (spec_l3Pack.calls k ((rd_T54 l0 0).f0) _ _ ((rd_T54 l0 0).f1) _ _ ((rd_T54 l0 0).f2) false t277 _ ?side1 ?side2 ?side3 ?side4 A3.out (hpp0_0 := by first | (with_unfolding_all assumption) | (dsimp only; assumption) | (dsimp only [Nat.zero_add]; exact (blk_cell (Aside0.out (by assumption)) _).trans rfl) | (go_simp; done)) (hpp0_1 := by first | (with_unfolding_all assumption) | (dsimp only; assumption) | (dsimp only [Nat.zero_add]; exact (blk_cell (Aside0.out (by assumption)) _).trans rfl) | (go_simp; done)) (hpp0_2 := by first | (with_unfolding_all assumption) | (dsimp only; assumption) | (dsimp only [Nat.zero_add]; exact (blk_cell (Aside0.out (by assumption)) _).trans rfl) | (go_simp; done))) ?_); (case side1 => exact pC HR276_1.out); (case side2 => exact HC276_1.out); (case side3 => exact pC HR276_2.out); (case side4 => exact HC276_2.out); rintro e w5 ⟨v278, rfl, ho0, hb⟩; refine ⟨_, rfl, ?_⟩; have n_ := t2 (rL ho0 (bs_ pB)) (bz_ pB hb); clear HB; obtain ⟨HO279, HB⟩ := n_; (try clear hb); (try clear ho0); obtain ⟨Ao6, co6, eo6⟩ := rS HO279.out; subst eo6) | ((with_reducible refine gC (f := 45) rfl ?_); refine goesL_ (some 5) rfl rfl Try.func45 (by kernel_rfl) rfl #[.slice Ao6 t277.length co6] rfl pA ?_; (with_reducible refine (spec_l1Sum.calls k _ _ t277 t280 _ ?side1 ?side2 A4.out).mono ?_); (case side1 => exact pC (rr HO279.out).2.2); (case side2 => exact (rr HO279.out).2.1); rintro e w' ⟨rfl, ⟨nd, rfl⟩⟩; refine ⟨_, rfl, ?_⟩))
   go_ret
   exact ⟨pE, pB⟩
 · rw [if_neg c2] at H
   exact absurd H (by simp)
def spec_l3Sum.f (k : Nat) (a0_0 : Int) (l0_1 : List (S77)) (l0_2 : List (S80)) : Option (Int) := spec_l3Sum_in.f k [(⟨a0_0, l0_1, l0_2⟩ : S54)]
theorem spec_l3Sum.mono : ∀ (a0_0 : Int) (l0_1 : List (S77)) (l0_2 : List (S80)) (k : Nat), LeO (spec_l3Sum.f k a0_0 l0_1 l0_2) (spec_l3Sum.f (k + 1) a0_0 l0_1 l0_2) := fun a0_0 l0_1 l0_2 k => spec_l3Sum_in.mono [(⟨a0_0, l0_1, l0_2⟩ : S54)] k
set_option maxHeartbeats 8000000 in
theorem spec_l3Sum.calls (k : Nat) (a0_0 : Int) (A0_1 : Option Addr) (c0_1 : Nat) (l0_1 : List (S77)) (A0_2 : Option Addr) (c0_2 : Nat) (l0_2 : List (S80)) (r : Int) (w : World) (hr0_1 : Kd.C k77 w A0_1 l0_1.length l0_1) (hc0_1 : l0_1.length ≤ c0_1) (hr0_2 : Kd.C k80 w A0_2 l0_2.length l0_2) (hc0_2 : l0_2.length ≤ c0_2) (h : spec_l3Sum.f k a0_0 l0_1 l0_2 = some r) {pp0 : Addr} (hpp0_0 : w.cell? pp0 = some (.int .i64 a0_0)) (hpp0_1 : w.cell? ⟨pp0.block, pp0.off + 1, none⟩ = some (.slice A0_1 l0_1.length c0_1)) (hpp0_2 : w.cell? ⟨pp0.block, pp0.off + 2, none⟩ = some (.slice A0_2 l0_2.length c0_2)) :
 Calls Try.prog 43 #[.pointer (some pp0)] w fun e w' => e = .returned (.int .i64 r) ∧ Below w.heap.size w w' := by
 have o0 : Kd.C k54 w (some pp0) 1 [(⟨a0_0, l0_1, l0_2⟩ : S54)] := by
  refine ⟨rfl, by decide, fun _ => ⟨pp0, rfl, fun j p hj => ?_⟩⟩
  cases j with
  | succ j => simp at hj
  | zero =>
   obtain rfl : (⟨a0_0, l0_1, l0_2⟩ : S54) = p := by simpa using hj
   refine ⟨_, rfl, k54_mk w _ hc0_1 hr0_1 hc0_2 hr0_2, fun i u hu => ?_⟩
   match i, hu with
   | 0, hu => obtain rfl := sj hu; exact hpp0_0
   | 1, hu => obtain rfl := sj hu; exact hpp0_1
   | 2, hu => obtain rfl := sj hu; exact hpp0_2
 exact spec_l3Sum_in.calls k (some pp0) 1 [(⟨a0_0, l0_1, l0_2⟩ : S54)] r w o0 (Nat.le_refl 1) h
def spec_l6Sums_in.l0 : Nat → List (S31) → List Int → Int → Option (List Int)
 | 0, _, _, _ => none
 | k + 1, x0, x3, x4 => if 0 < (x0.length : Int) then (if x4 < (((rd_T31 x0 0).f4).length : Int) then (if 0 ≤ x4 then ((spec_l3Sum.f k ((rd_T54 ((rd_T31 x0 0).f4) x4).f0) ((rd_T54 ((rd_T31 x0 0).f4) x4).f1) ((rd_T54 ((rd_T31 x0 0).f4) x4).f2)).bind fun t287 => (if x3.length < 17592186044416 then (spec_l6Sums_in.l0 k x0 (x3 ++ [t287]) (wrap64 (x4 + 1))) else (none))) else (none)) else (some x3)) else (none)
def spec_l6Sums_in.f (k : Nat) (l0 : List (S31)) : Option (List Int) := spec_l6Sums_in.l0 k l0 (([] : List Int)) 0
theorem spec_l6Sums_in.mono_l : ∀ k, (∀ y0 y1 y2, LeO (spec_l6Sums_in.l0 k y0 y1 y2) (spec_l6Sums_in.l0 (k + 1) y0 y1 y2))
 | 0 => fun _ _ _ r h => by simp [spec_l6Sums_in.l0] at h
 | k + 1 => by
  have ih0 := spec_l6Sums_in.mono_l k
  · intro y0 y1 y2
    unfold spec_l6Sums_in.l0
    repeat' with_reducible first | exact ih0 _ _ _ | exact spec_l3Sum.mono _ _ _ _ | exact LeO.refl _ | exact LeO.none _ | refine LeO.ite ?_ ?_ | refine LeO.bind ?_ (fun _ => ?_)
theorem spec_l6Sums_in.mono : ∀ a0 k, LeO (spec_l6Sums_in.f k a0) (spec_l6Sums_in.f (k + 1) a0) := by
 intro a0 k
 have ih0 := spec_l6Sums_in.mono_l k
 unfold spec_l6Sums_in.f
 repeat' with_reducible first | exact ih0 _ _ _ | exact spec_l3Sum.mono _ _ _ _ | exact LeO.refl _ | exact LeO.none _ | refine LeO.ite ?_ ?_ | refine LeO.bind ?_ (fun _ => ?_)
theorem spec_l6Sums_in.calls (k : Nat) (A0 : Option Addr) (c0 : Nat) (l0 : List (S31)) (r : List Int) (w : World) (hr0 : Kd.C k31 w A0 l0.length l0) (hc0 : l0.length ≤ c0) (h : spec_l6Sums_in.f k l0 = some r) :
 Calls Try.prog 24 #[.pointer A0] w fun e w' => ∃ v0_ : Value, e = .returned (v0_) ∧ Kd.R (Kd.int .i64) 2 w' w.heap.size (fun _ => True) v0_ r ∧ Below w.heap.size w w' := by
 have hu54 := Try.underlying54
 have HR0 := am hr0; have HC0 := am hc0; clear hr0 hc0
 have HB := am (Below.refl w.heap.size w)
 have H : (spec_l6Sums_in.l0 k l0 (([] : List Int)) 0) = some r := h
 clear h
 obtain ⟨y281, hy281⟩ : ∃ y_ : List Int, y_ = (([] : List Int)) := ⟨_, rfl⟩
 replace H : (spec_l6Sums_in.l0 k l0 y281 0) = some r := by first | (rw [hy281]; with_reducible exact H) | (have H2_ := (Option.bind_some _ _).symm.trans H; rw [hy281]; with_reducible exact H2_) | (have H2_ := (Option.bind_some _ _).symm.trans H; with_reducible exact H2_) | with_reducible exact H | (rw [hy281]; exact H) | exact H
 have Ny281 := am hy281; clear hy281
 have H' := am H
 clear H
 go_enter Try.func24, Try.ntmps24
 go_wp2_with (first | ((with_reducible refine gate_dst (N := 5) rfl ?_); refine Kd.R_lit (Kd.int .i64) _ 2 ?hg (N := 5) ?hd (xs := ([] : List Int)) (inner := []) (ok := fun _ => True) (okp := fun _ => True) ?hr ?hp (fun _ hk => hk) trivial (Below.refl _ _) (Nat.le_refl _) (by simp) ?_; (case hd => rfl); (case hg => rfl); (case hr => first | (go_simp; done) | (go_simp; rfl)); (case hp => exact (Reps.none _ _)); intro v282 w2 ho3 hb hg_ hnew_; clear hg_ hnew_; (first | rw [← Ny281.out] at ho3 | (simp only [Int.reduceToNat] at ho3; rw [← Ny281.out] at ho3)); have n_ := t2 (rL ho3 (bs_ pB)) (bz_ pB hb); clear HB; obtain ⟨HO283, HB⟩ := n_; clear hb ho3))
 go_loopg [3, 4] k (fun kq v3 v4 w' => ∃ (x3_1 : List Int) (x4_1 : Int), v4 = .int .i64 x4_1 ∧ Aside0 (spec_l6Sums_in.l0 kq l0 x3_1 x4_1 = some r) ∧ Aside0 (kq ≤ k) ∧ Aside0 (Kd.R (Kd.int .i64) 2 w' w.heap.size (fun _ => True) v3 x3_1) ∧ Aside0 (Below w.heap.size w w'))
 case atStart => exact ⟨(y281), (0), pF, H', ⟨Nat.le_refl _⟩, ⟨(pR HO283)⟩, ⟨pB⟩⟩
 case round =>
  clear H'
  obtain ⟨x3_1, x4_1, rfl, HA, HK1, HO_3, HB⟩ := hrel
  cases gk with
  | zero => exact absurd HA.out (by simp [spec_l6Sums_in.l0])
  | succ k1 =>
   have H := HA.out
   clear HA
   simp only [spec_l6Sums_in.l0] at H
   by_cases c4 : 0 < (l0.length : Int)
   · rw [if_pos c4] at H
     have c4b0 : decide (0 < (l0.length : Int)) = true := dt c4
     have c4b1 : decide (0 < l0.length) = true := dt (by omega)
     clear c4
     by_cases c5 : x4_1 < (((rd_T31 l0 0).f4).length : Int)
     · rw [if_pos c5] at H
       have c5b0 : decide (x4_1 < (((rd_T31 l0 0).f4).length : Int)) = true := dt c5
       clear c5
       by_cases c6 : 0 ≤ x4_1
       · rw [if_pos c6] at H
         have c6b0 : decide (0 ≤ x4_1) = true := dt c6
         clear c6
         obtain ⟨t287, A70, H⟩ := bO H
         replace H : (if x3_1.length < 17592186044416 then (spec_l6Sums_in.l0 k1 l0 (x3_1 ++ [t287]) (wrap64 (x4_1 + 1))) else (none)) = some r := H
         have A7 := am A70; clear A70
         by_cases c8 : x3_1.length < 17592186044416
         · rw [if_pos c8] at H
           have LMc8 := am c8; clear c8
           obtain ⟨y288, hy288⟩ : ∃ y_ : List Int, y_ = (x3_1 ++ [t287]) := ⟨_, rfl⟩
           replace H : (spec_l6Sums_in.l0 k1 l0 y288 (wrap64 (x4_1 + 1))) = some r := by first | (rw [hy288]; with_reducible exact H) | (have H2_ := (Option.bind_some _ _).symm.trans H; rw [hy288]; with_reducible exact H2_) | (have H2_ := (Option.bind_some _ _).symm.trans H; with_reducible exact H2_) | with_reducible exact H | (rw [hy288]; exact H) | exact H
           have Ny288 := am hy288; clear hy288
           have H' := am H
           clear H
           have p284 : 0 ≤ (0 : Int) := (by omega)
           have q284 : 0 < (l0.length : Int) := pD
           obtain ⟨ad284, A284_4, c284_4, e284, hx284_0, hx284_1, hx284_2, hx284_3, hx284_4, hl284_4, hi284_4⟩ := at_T31 HR0.out 0 p284 q284
           cases e284
           have qi284 : (0 < l0.length) = True := eq_true (by omega)
           (try rw [z0, zm, az] at hx284_0); (try rw [z0, zm, az] at hx284_1); (try rw [z0, zm, az] at hx284_2); (try rw [z0, zm, az] at hx284_3); (try rw [z0, zm, az] at hx284_4); replace hx284_0 := cb HB hx284_0; replace hx284_1 := cb HB hx284_1; replace hx284_2 := cb HB hx284_2; replace hx284_3 := cb HB hx284_3; replace hx284_4 := cb HB hx284_4; have HR284_4 := am hi284_4; have HC284_4 := am hl284_4; clear hi284_4 hl284_4; replace p284 := eq_true p284; replace q284 := eq_true q284
           have p285 : 0 ≤ (0 : Int) := (by omega)
           have q285 : 0 < (l0.length : Int) := pD
           (try clear hx284_0); (try clear hx284_1); (try clear hx284_2); (try clear hx284_3); (try clear hHeld)
           obtain ⟨ad285, A285_4, c285_4, e285, hx285_0, hx285_1, hx285_2, hx285_3, hx285_4, hl285_4, hi285_4⟩ := at_T31 HR0.out 0 p285 q285
           obtain rfl : ad284 = ad285 := (by injection e285)
           have qi285 : (0 < l0.length) = True := eq_true (by omega)
           (try rw [z0, zm, az] at hx285_0); (try rw [z0, zm, az] at hx285_1); (try rw [z0, zm, az] at hx285_2); (try rw [z0, zm, az] at hx285_3); (try rw [z0, zm, az] at hx285_4); replace hx285_0 := cb HB hx285_0; replace hx285_1 := cb HB hx285_1; replace hx285_2 := cb HB hx285_2; replace hx285_3 := cb HB hx285_3; replace hx285_4 := cb HB hx285_4; have HR285_4 := am hi285_4; have HC285_4 := am hl285_4; clear hi285_4 hl285_4; replace p285 := eq_true p285; replace q285 := eq_true q285
           have ea_ := sj (hx284_4.symm.trans hx285_4)
           injection ea_ with ea_ en_ ec_
           subst ea_; subst ec_; clear en_
           have p286 : 0 ≤ (x4_1 : Int) := pD
           have q286 : x4_1 < (((rd_T31 l0 0).f4).length : Int) := pD
           obtain ⟨ad286, A286_1, c286_1, A286_2, c286_2, e286, hx286_0, hx286_1, hx286_2, hl286_1, hi286_1, hl286_2, hi286_2⟩ := at_T54 HR285_4.out x4_1 p286 q286
           cases e286; replace hx286_0 := cb HB hx286_0; replace hx286_1 := cb HB hx286_1; replace hx286_2 := cb HB hx286_2; have HR286_1 := am hi286_1; have HC286_1 := am hl286_1; clear hi286_1 hl286_1; have HR286_2 := am hi286_2; have HC286_2 := am hl286_2; clear hi286_2 hl286_2; replace p286 := eq_true p286; replace q286 := eq_true q286
           go_wp2_with (first | ((with_reducible refine gC (f := 43) rfl ?_); refine goesL_ (some 22) rfl rfl Try.func43 (by kernel_rfl) rfl #[.pointer (some _)] rfl pA ?_; (refine Calls.mono (spec_l3Sum.calls k1 ((rd_T54 ((rd_T31 l0 0).f4) x4_1).f0) _ _ ((rd_T54 ((rd_T31 l0 0).f4) x4_1).f1) _ _ ((rd_T54 ((rd_T31 l0 0).f4) x4_1).f2) t287 _ ?side1 ?side2 ?side3 ?side4 A7.out (hpp0_0 := by first | (with_unfolding_all assumption) | (dsimp only; assumption) | (dsimp only [Nat.zero_add]; exact (blk_cell (Aside0.out (by assumption)) _).trans rfl) | (go_simp; done)) (hpp0_1 := by first | (with_unfolding_all assumption) | (dsimp only; assumption) | (dsimp only [Nat.zero_add]; exact (blk_cell (Aside0.out (by assumption)) _).trans rfl) | (go_simp; done)) (hpp0_2 := by first | (with_unfolding_all assumption) | (dsimp only; assumption) | (dsimp only [Nat.zero_add]; exact (blk_cell (Aside0.out (by assumption)) _).trans rfl) | (go_simp; done))) ?_); (case side1 => exact pC (Kd.C_below HR286_1.out HB.out)); (case side2 => exact HC286_1.out); (case side3 => exact pC (Kd.C_below HR286_2.out HB.out)); (case side4 => exact HC286_2.out); rintro e w9 ⟨rfl, hb⟩; refine ⟨_, rfl, ?_⟩; have n_ := t2 (Kd.R_below (pR HO_3) hb) (bz_ pB hb); clear HO_3 HB; obtain ⟨HO_3, HB⟩ := n_; (try clear hb)) | ((with_reducible refine gB (b := .append) (xs := #[.tmp 15, .tmp 23]) rfl ?_); at_builtin; refine Kd.R_append (Kd.int .i64) (w0 := w) w.heap.size rfl (.tmp 15) (.tmp 23) 57 2 (.int .i64 0) 8 rfl Try.underlying57 info2 rfl (by decide) (by omega) u3 x3_1 t287 [.int .i64 t287] (fun _ => True) (fun _ => False) rfl rfl ?aP (fun _ hk => hk.elim) ?aF ?aO ?aB ?aS ?aL ?_; (case aP => exact rfl); (case aB => exact pB); (case aF => exact (fun _ _ => trivial)); (case aO => exact (pR HO_3)); (case aS => exact (bs_ pB)); (case aL => have := LMc8.out; omega); intro v289 w10 ho hb hg hat; rw [← Ny288.out] at ho; have n_ := t2 (hb) (ho); clear HB HO_3; obtain ⟨HB, HO290⟩ := n_; clear ho hb hg hat))
           go_roundg k1
           case measure => have := HK1.out; omega
           case rel => exact ⟨(y288), (wrap64 (x4_1 + 1)), pF, H', ⟨by have := HK1.out; omega⟩, ⟨(pR HO290)⟩, ⟨pB⟩⟩
         · rw [if_neg c8] at H
           exact absurd H (by simp)
       · rw [if_neg c6] at H
         exact absurd H (by simp)
     · rw [if_neg c5] at H
       have c5b0 : decide (x4_1 < (((rd_T31 l0 0).f4).length : Int)) = false := decide_eq_false c5
       clear c5
       obtain rfl := sj H
       have p284 : 0 ≤ (0 : Int) := (by omega)
       have q284 : 0 < (l0.length : Int) := pD
       obtain ⟨ad284, A284_4, c284_4, e284, hx284_0, hx284_1, hx284_2, hx284_3, hx284_4, hl284_4, hi284_4⟩ := at_T31 HR0.out 0 p284 q284
       cases e284
       have qi284 : (0 < l0.length) = True := eq_true (by omega)
       (try rw [z0, zm, az] at hx284_0); (try rw [z0, zm, az] at hx284_1); (try rw [z0, zm, az] at hx284_2); (try rw [z0, zm, az] at hx284_3); (try rw [z0, zm, az] at hx284_4); replace hx284_0 := cb HB hx284_0; replace hx284_1 := cb HB hx284_1; replace hx284_2 := cb HB hx284_2; replace hx284_3 := cb HB hx284_3; replace hx284_4 := cb HB hx284_4; have HR284_4 := am hi284_4; have HC284_4 := am hl284_4; clear hi284_4 hl284_4; replace p284 := eq_true p284; replace q284 := eq_true q284
       go_wp2
       go_ret
       exact ⟨_, pE, (pR HO_3), pB⟩
   · rw [if_neg c4] at H
     exact absurd H (by simp)
def spec_l6Sums.f (k : Nat) (a0_0 : Int) (a0_1 : Int) (a0_2 : Int) (a0_3 : Int) (l0_4 : List (S54)) : Option (List Int) := spec_l6Sums_in.f k [(⟨a0_0, a0_1, a0_2, a0_3, l0_4⟩ : S31)]
theorem spec_l6Sums.mono : ∀ (a0_0 : Int) (a0_1 : Int) (a0_2 : Int) (a0_3 : Int) (l0_4 : List (S54)) (k : Nat), LeO (spec_l6Sums.f k a0_0 a0_1 a0_2 a0_3 l0_4) (spec_l6Sums.f (k + 1) a0_0 a0_1 a0_2 a0_3 l0_4) := fun a0_0 a0_1 a0_2 a0_3 l0_4 k => spec_l6Sums_in.mono [(⟨a0_0, a0_1, a0_2, a0_3, l0_4⟩ : S31)] k
set_option maxHeartbeats 8000000 in
theorem spec_l6Sums.calls (k : Nat) (a0_0 : Int) (a0_1 : Int) (a0_2 : Int) (a0_3 : Int) (A0_4 : Option Addr) (c0_4 : Nat) (l0_4 : List (S54)) (r : List Int) (w : World) (hr0_4 : Kd.C k54 w A0_4 l0_4.length l0_4) (hc0_4 : l0_4.length ≤ c0_4) (h : spec_l6Sums.f k a0_0 a0_1 a0_2 a0_3 l0_4 = some r) {pp0 : Addr} (hpp0_0 : w.cell? pp0 = some (.int .i64 a0_0)) (hpp0_1 : w.cell? ⟨pp0.block, pp0.off + 1, none⟩ = some (.int .i64 a0_1)) (hpp0_2 : w.cell? ⟨pp0.block, pp0.off + 2, none⟩ = some (.int .i64 a0_2)) (hpp0_3 : w.cell? ⟨pp0.block, pp0.off + 3, none⟩ = some (.int .i64 a0_3)) (hpp0_4 : w.cell? ⟨pp0.block, pp0.off + 4, none⟩ = some (.slice A0_4 l0_4.length c0_4)) :
 Calls Try.prog 24 #[.pointer (some pp0)] w fun e w' => ∃ v0_ : Value, e = .returned (v0_) ∧ Kd.R (Kd.int .i64) 2 w' w.heap.size (fun _ => True) v0_ r ∧ Below w.heap.size w w' := by
 have o0 : Kd.C k31 w (some pp0) 1 [(⟨a0_0, a0_1, a0_2, a0_3, l0_4⟩ : S31)] := by
  refine ⟨rfl, by decide, fun _ => ⟨pp0, rfl, fun j p hj => ?_⟩⟩
  cases j with
  | succ j => simp at hj
  | zero =>
   obtain rfl : (⟨a0_0, a0_1, a0_2, a0_3, l0_4⟩ : S31) = p := by simpa using hj
   refine ⟨_, rfl, k31_mk w _ hc0_4 hr0_4, fun i u hu => ?_⟩
   match i, hu with
   | 0, hu => obtain rfl := sj hu; exact hpp0_0
   | 1, hu => obtain rfl := sj hu; exact hpp0_1
   | 2, hu => obtain rfl := sj hu; exact hpp0_2
   | 3, hu => obtain rfl := sj hu; exact hpp0_3
   | 4, hu => obtain rfl := sj hu; exact hpp0_4
 exact spec_l6Sums_in.calls k (some pp0) 1 [(⟨a0_0, a0_1, a0_2, a0_3, l0_4⟩ : S31)] r w o0 (Nat.le_refl 1) h
end Go.Proofs.Ytjmdfghljlmfmaa.QFnExactHeaderSum
