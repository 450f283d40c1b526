-- written by this session's program (wip/tools/myprint.py)
import Derived.Test.YthjlbpgiaehjnaaQFnExactBlockRootx0
import Derived.Test.YthjlbpgiaehjnaaQFnExactBlockRootx9
-- squeezed
namespace Go.Proofs.Ythjlbpgiaehjnaa.QFnExactBlockRoot
open Go.RowKit Go.Proofs.YthjlbpgiaehjnaaW.PrintWords Go.Proofs.YthjlbpgiaehjnaaW.PrintLast Go.Proofs.YthjlbpgiaehjnaaW.PrintMore
attribute [local go_sem] max2_int min2_int max_two min_two max_three min_three max_four min_four   -- for this text's walks alone
set_option linter.unusedVariables false
set_option linter.unusedSimpArgs false
set_option maxHeartbeats 8000000
set_option maxRecDepth 100000
def spec_l1SumInts.l0 : Nat → List Int → List Int → Int → Option (Int)
 | 0, _, _, _ => none
 | k + 1, x0, x3, x4 => if x4 < (x0.length : Int) then (if 0 ≤ x4 then ((spec_l1Four.f (rd x0 x4)).bind fun t351 => (if x3.length + t351.length < 140737488355328 then (spec_l1SumInts.l0 k x0 (x3 ++ t351) (wrap64 (x4 + 1))) else (none))) else (none)) else ((spec_l1Sum.f k x3).bind fun t357 => (some t357))
def spec_l1SumInts.f (k : Nat) (l0 : List Int) : Option (Int) := spec_l1SumInts.l0 k l0 (([] : List Int)) 0
theorem spec_l1SumInts.mono_l : ∀ k, (∀ y0 y1 y2, LeO (spec_l1SumInts.l0 k y0 y1 y2) (spec_l1SumInts.l0 (k + 1) y0 y1 y2))
 | 0 => fun _ _ _ r h => by simp [spec_l1SumInts.l0] at h
 | k + 1 => by
  have ih0 := spec_l1SumInts.mono_l k
  · intro y0 y1 y2
    unfold spec_l1SumInts.l0
    repeat' with_reducible first | exact ih0 _ _ _ | exact spec_l1Sum.mono _ _ | exact LeO.refl _ | exact LeO.none _ | refine LeO.ite ?_ ?_ | refine LeO.bind ?_ (fun _ => ?_)
theorem spec_l1SumInts.mono : ∀ a0 k, LeO (spec_l1SumInts.f k a0) (spec_l1SumInts.f (k + 1) a0) := by
 intro a0 k
 have ih0 := spec_l1SumInts.mono_l k
 unfold spec_l1SumInts.f
 repeat' with_reducible first | exact ih0 _ _ _ | exact spec_l1Sum.mono _ _ | exact LeO.refl _ | exact LeO.none _ | refine LeO.ite ?_ ?_ | refine LeO.bind ?_ (fun _ => ?_)
theorem spec_l1SumInts.calls (k : Nat) (A0 : Option Addr) (c0 : Nat) (l0 : List Int) (r : Int) (w : World) (hr0 : Kd.C (Kd.int .i64) w A0 l0.length l0) (hc0 : l0.length ≤ c0) (h : spec_l1SumInts.f k l0 = some r) :
 Calls Try.prog 160 #[.slice A0 l0.length c0] w fun e w' => e = .returned (.int .i64 r) ∧ Below w.heap.size w w' := by
 have HR0 := am hr0; have HC0 := am hc0; clear hr0 hc0
 have HB := am (Below.refl w.heap.size w)
 have H : (spec_l1SumInts.l0 k l0 (([] : List Int)) 0) = some r := h
 clear h
 obtain ⟨y347, hy347⟩ : ∃ y_ : List Int, y_ = (([] : List Int)) := ⟨_, rfl⟩
 replace H : (spec_l1SumInts.l0 k l0 y347 0) = some r := by first | (rw [hy347]; with_reducible exact H) | (have H2_ := (Option.bind_some _ _).symm.trans H; rw [hy347]; with_reducible exact H2_) | (have H2_ := (Option.bind_some _ _).symm.trans H; with_reducible exact H2_) | with_reducible exact H | (rw [hy347]; exact H) | exact H
 have Ny347 := am hy347; clear hy347
 have H' := am H
 clear H
 go_enter Try.func160, Try.ntmps160
 go_wp2_with (first | ((with_reducible refine gate_dst (N := 5) rfl ?_); refine Kd.R_lit (Kd.int .u8) _ 5 ?hg (N := 5) ?hd (xs := ([] : List Int)) (inner := []) (ok := fun _ => True) (okp := fun _ => True) ?hr ?hp (fun _ hk => hk) trivial (Below.refl _ _) (Nat.le_refl _) (by simp) ?_; (case hd => rfl); (case hg => rfl); (case hr => first | (go_simp; done) | (go_simp; rfl)); (case hp => exact (Reps.none _ _)); intro v348 w2 ho3 hb hg_ hnew_; clear hg_ hnew_; (first | rw [← Ny347.out] at ho3 | (simp only [Int.reduceToNat] at ho3; rw [← Ny347.out] at ho3)); have n_ := t2 (rL ho3 (bs_ pB)) (bz_ pB hb); clear HB; obtain ⟨HO349, HB⟩ := n_; clear hb ho3))
 go_loopg [3, 4] k (fun kq v3 v4 w' => ∃ (x3_1 : List Int) (x4_1 : Int), v4 = .int .i64 x4_1 ∧ Aside0 (spec_l1SumInts.l0 kq l0 x3_1 x4_1 = some r) ∧ Aside0 (kq ≤ k) ∧ Aside0 (Kd.R (Kd.int .u8) 5 w' w.heap.size (fun _ => True) v3 x3_1) ∧ Aside0 (Below w.heap.size w w'))
 case atStart => exact ⟨(y347), (0), pF, H', ⟨Nat.le_refl _⟩, ⟨(pR HO349)⟩, ⟨pB⟩⟩
 case round =>
  clear H'
  obtain ⟨x3_1, x4_1, rfl, HA, HK1, HO_3, HB⟩ := hrel
  cases gk with
  | zero => exact absurd HA.out (by simp [spec_l1SumInts.l0])
  | succ k1 =>
   have H := HA.out
   clear HA
   simp only [spec_l1SumInts.l0] at H
   by_cases c4 : x4_1 < (l0.length : Int)
   · rw [if_pos c4] at H
     have c4b0 : decide (x4_1 < (l0.length : Int)) = true := dt c4
     clear c4
     by_cases c5 : 0 ≤ x4_1
     · rw [if_pos c5] at H
       have c5b0 : decide (0 ≤ x4_1) = true := dt c5
       clear c5
       obtain ⟨t351, A60, H⟩ := bO H
       replace H : (if x3_1.length + t351.length < 140737488355328 then (spec_l1SumInts.l0 k1 l0 (x3_1 ++ t351) (wrap64 (x4_1 + 1))) else (none)) = some r := H
       have A6 := am A60; clear A60
       by_cases c7 : x3_1.length + t351.length < 140737488355328
       · rw [if_pos c7] at H
         have LMc7 := am c7; clear c7
         obtain ⟨y354, hy354⟩ : ∃ y_ : List Int, y_ = (x3_1 ++ t351) := ⟨_, rfl⟩
         replace H : (spec_l1SumInts.l0 k1 l0 y354 (wrap64 (x4_1 + 1))) = some r := by first | (rw [hy354]; with_reducible exact H) | (have H2_ := (Option.bind_some _ _).symm.trans H; rw [hy354]; with_reducible exact H2_) | (have H2_ := (Option.bind_some _ _).symm.trans H; with_reducible exact H2_) | with_reducible exact H | (rw [hy354]; exact H) | exact H
         have Ny354 := am hy354; clear hy354
         have H' := am H
         clear H
         have p350 : 0 ≤ (x4_1 : Int) := pD
         have q350 : x4_1 < (l0.length : Int) := pD
         obtain ⟨ad350, e350, hx350_0⟩ := Kd.at_int HR0.out x4_1 p350 q350
         cases e350; replace hx350_0 := cb HB hx350_0; replace p350 := eq_true p350; replace q350 := eq_true q350
         go_wp2_with (first | ((with_reducible refine gC (f := 161) rfl ?_); refine goesL_ (some 17) rfl rfl Try.func161 (by kernel_rfl) rfl #[.int .i64 (rd l0 x4_1)] rfl pA ?_; (with_reducible refine (spec_l1Four.calls (rd l0 x4_1) t351 _ A6.out).mono ?_); rintro e w8 ⟨v352, rfl, ho0, hb⟩; refine ⟨_, rfl, ?_⟩; have n_ := t3 (rE (pR HO_3) (rB ho0) hb) (rL (rW ho0 (Kd.R_lt (pR HO_3))) (bs_ pB)) (bz_ pB hb); clear HO_3 HB; obtain ⟨HO_3, HO353, HB⟩ := n_; (try clear hb); (try clear ho0); obtain ⟨Ao10, co10, eo10⟩ := rS HO353.out; subst eo10) | ((with_reducible refine gB (b := .append) (xs := #[.tmp 12, .tmp 17]) rfl ?_); at_builtin; refine Kd.R_append_rows (Kd.int .u8) (w0 := w) w.heap.size rfl (.tmp 12) (.tmp 17) 22 5 (.int .u8 0) 1 rfl Try.underlying22 info5 rfl (by decide) (by omega) u3 x3_1 t351 _ _ _ (fun k_ => some k_ ≠ (.slice Ao10 t351.length co10 : Value).ownBlock) (fun _ => False) rfl rfl ?aO ?aR (fun _ _ h => h) (fun _ h => h.elim) ?aF ?aB ?aS ?aL ?_; (case aR => exact pC (rr HO353.out).2.2); (case aB => exact pB); (case aF => exact (fun k_ hk => Kd.fresh' (Kd.R_lt (pR HO353)) k_ hk)); (case aO => exact (pT (Kd.R_mono HO_3.out (fun _ hk => hk.2)))); (case aS => exact (bs_ pB)); (case aL => have := LMc7.out; omega); intro v355 w9 ho hb hg hat; rw [← Ny354.out] at ho; have n_ := t3 (Kd.R_after (ok := (fun _ => True)) (pR HO353) hg hat) (hb) (ho); clear HO353 HB HO_3; obtain ⟨HO353, HB, HO356⟩ := n_; clear ho hb hg hat))
         go_roundg k1
         case measure => have := HK1.out; omega
         case rel => exact ⟨(y354), (wrap64 (x4_1 + 1)), pF, H', ⟨by have := HK1.out; omega⟩, ⟨(pT (Kd.R_mono HO356.out (fun _ hk => trivial)))⟩, ⟨pB⟩⟩
       · rw [if_neg c7] at H
         exact absurd H (by simp)
     · rw [if_neg c5] at H
       exact absurd H (by simp)
   · rw [if_neg c4] at H
     have c4b0 : decide (x4_1 < (l0.length : Int)) = false := decide_eq_false c4
     clear c4
     obtain ⟨t357, A110, H⟩ := bO H
     replace H : (some t357) = some r := H
     have A11 := am A110; clear A110
     obtain rfl := sj H
     obtain ⟨Ao12, co12, eo12⟩ := rS HO_3.out
     subst eo12
     go_wp2_with (first | ((with_reducible refine gC (f := 103) rfl ?_); refine goesL_ (some 20) rfl rfl Try.func103 (by kernel_rfl) rfl #[.slice Ao12 x3_1.length co12] rfl pA ?_; (with_reducible refine (spec_l1Sum.calls k1 _ _ x3_1 t357 _ ?side1 ?side2 A11.out).mono ?_); (case side1 => exact pC (rr HO_3.out).2.2); (case side2 => exact (rr HO_3.out).2.1); rintro e w' ⟨rfl, ⟨nd, rfl⟩⟩; refine ⟨_, rfl, ?_⟩))
     go_ret
     exact ⟨pE, pB⟩
def spec_l4Join.f (k : Nat) (a0 : Int) (a1 : Int) : Option (Int) := (spec_l1SumInts.f k (([a0, a1] : List Int))).bind fun t361 => (some t361)
theorem spec_l4Join.mono : ∀ a0 a1 k, LeO (spec_l4Join.f k a0 a1) (spec_l4Join.f (k + 1) a0 a1) := by
 intro a0 a1 k
 unfold spec_l4Join.f
 repeat' with_reducible first | exact spec_l1SumInts.mono _ _ | exact LeO.refl _ | exact LeO.none _ | refine LeO.ite ?_ ?_ | refine LeO.bind ?_ (fun _ => ?_)
theorem spec_l4Join.calls (k : Nat) (a0 : Int) (a1 : Int) (r : Int) (w : World) (h : spec_l4Join.f k a0 a1 = some r) :
 Calls Try.prog 154 #[.int .i64 a0, .int .i64 a1] w fun e w' => e = .returned (.int .i64 r) ∧ Below w.heap.size w w' := by
 have HB := am (Below.refl w.heap.size w)
 have H : ((spec_l1SumInts.f k (([a0, a1] : List Int))).bind fun t361 => (some t361)) = some r := h
 clear h
 obtain ⟨y358, hy358⟩ : ∃ y_ : List Int, y_ = (([a0, a1] : List Int)) := ⟨_, rfl⟩
 replace H : ((spec_l1SumInts.f k y358).bind fun t361 => (some t361)) = some r := by first | (rw [hy358]; with_reducible exact H) | (have H2_ := (Option.bind_some _ _).symm.trans H; rw [hy358]; with_reducible exact H2_) | (have H2_ := (Option.bind_some _ _).symm.trans H; with_reducible exact H2_) | with_reducible exact H | (rw [hy358]; exact H) | exact H
 have Ny358 := am hy358; clear hy358
 obtain ⟨t361, A30, H⟩ := bO H
 replace H : (some t361) = some r := H
 have A3 := am A30; clear A30
 obtain rfl := sj H
 go_enter Try.func154, Try.ntmps154
 go_wp2_with (first | ((with_reducible refine gate_dst (N := 7) rfl ?_); refine Kd.R_lit (Kd.int .i64) _ 2 ?hg (N := 7) ?hd (xs := ([a0, a1] : List Int)) (inner := [.int .i64 a0, .int .i64 a1]) (ok := fun _ => True) (okp := fun _ => True) ?hr ?hp (fun _ hk => hk) trivial (Below.refl _ _) (Nat.le_refl _) (by simp) ?_; (case hd => rfl); (case hg => rfl); (case hr => first | (go_simp; done) | (go_simp; rfl)); (case hp => exact (Reps.one (show Kd.M (Kd.int .i64) _ _ _ a0 [.int .i64 a0] from rfl) (Reps.one (show Kd.M (Kd.int .i64) _ _ _ a1 [.int .i64 a1] from rfl) (Reps.none _ _)))); intro v359 w4 ho5 hb hg_ hnew_; clear hg_ hnew_; (first | rw [← Ny358.out] at ho5 | (simp only [Int.reduceToNat] at ho5; rw [← Ny358.out] at ho5)); have n_ := t2 (rL ho5 (bs_ pB)) (bz_ pB hb); clear HB; obtain ⟨HO360, HB⟩ := n_; clear hb ho5; obtain ⟨Ao6, co6, eo6⟩ := rS HO360.out; subst eo6) | ((with_reducible refine gC (f := 160) rfl ?_); refine goesL_ (some 8) rfl rfl Try.func160 (by kernel_rfl) rfl #[.slice Ao6 y358.length co6] rfl pA ?_; (with_reducible refine (spec_l1SumInts.calls k _ _ y358 t361 _ ?side1 ?side2 A3.out).mono ?_); (case side1 => exact pC (rr HO360.out).2.2); (case side2 => exact (rr HO360.out).2.1); rintro e w7 ⟨rfl, hb⟩; refine ⟨_, rfl, ?_⟩; have n_ := t2 (Kd.R_below (pR HO360) hb) (bz_ pB hb); clear HO360 HB; obtain ⟨HO360, HB⟩ := n_; (try clear hb)))
 go_ret
 exact ⟨pE, pB⟩
def spec_l4Mate.f (l0 : List Int) (a1 : Int) : Option (Int) := if (Int.tmod a1 2) = 1 then (if (wrap64 (a1 - 1)) ≥ (l0.length : Int) then (if 0 ≤ a1 then (if a1 < (l0.length : Int) then (some (rd l0 a1)) else (none)) else (none)) else (if 0 ≤ (wrap64 (a1 - 1)) then (if (wrap64 (a1 - 1)) < (l0.length : Int) then (some (rd l0 (wrap64 (a1 - 1)))) else (none)) else (none))) else (if (wrap64 (a1 + 1)) ≥ (l0.length : Int) then (if 0 ≤ a1 then (if a1 < (l0.length : Int) then (some (rd l0 a1)) else (none)) else (none)) else (if 0 ≤ (wrap64 (a1 + 1)) then (if (wrap64 (a1 + 1)) < (l0.length : Int) then (some (rd l0 (wrap64 (a1 + 1)))) else (none)) else (none)))
theorem spec_l4Mate.calls (A0 : Option Addr) (c0 : Nat) (l0 : List Int) (a1 : Int) (r : Int) (w : World) (hr0 : Kd.C (Kd.int .i64) w A0 l0.length l0) (hc0 : l0.length ≤ c0) (h : spec_l4Mate.f l0 a1 = some r) :
 Calls Try.prog 155 #[.slice A0 l0.length c0, .int .i64 a1] w fun e w' => e = .returned (.int .i64 r) ∧ Drawn0 w w' := by
 have HR0 := am hr0; have HC0 := am hc0; clear hr0 hc0
 have H : (if (Int.tmod a1 2) = 1 then (if (wrap64 (a1 - 1)) ≥ (l0.length : Int) then (if 0 ≤ a1 then (if a1 < (l0.length : Int) then (some (rd l0 a1)) else (none)) else (none)) else (if 0 ≤ (wrap64 (a1 - 1)) then (if (wrap64 (a1 - 1)) < (l0.length : Int) then (some (rd l0 (wrap64 (a1 - 1)))) else (none)) else (none))) else (if (wrap64 (a1 + 1)) ≥ (l0.length : Int) then (if 0 ≤ a1 then (if a1 < (l0.length : Int) then (some (rd l0 a1)) else (none)) else (none)) else (if 0 ≤ (wrap64 (a1 + 1)) then (if (wrap64 (a1 + 1)) < (l0.length : Int) then (some (rd l0 (wrap64 (a1 + 1)))) else (none)) else (none)))) = some r := h
 clear h
 by_cases c3 : (Int.tmod a1 2) = 1
 · rw [if_pos c3] at H
   have c3b0 : ((Int.tmod a1 2) == 1) = true := beq_iff_eq.mpr c3
   have c3b1 : ((Int.tmod a1 2) != 1) = false := bne_eq_false_iff_eq.mpr c3
   clear c3
   by_cases c4 : (wrap64 (a1 - 1)) ≥ (l0.length : Int)
   · rw [if_pos c4] at H
     have c4b0 : decide ((l0.length : Int) ≤ (wrap64 (a1 - 1))) = true := dt c4
     clear c4
     by_cases c5 : 0 ≤ a1
     · rw [if_pos c5] at H
       have c5b0 : decide (0 ≤ a1) = true := dt c5
       clear c5
       by_cases c6 : a1 < (l0.length : Int)
       · rw [if_pos c6] at H
         have c6b0 : decide (a1 < (l0.length : Int)) = true := dt c6
         clear c6
         obtain rfl := sj H
         have p362 : 0 ≤ (a1 : Int) := pD
         have q362 : a1 < (l0.length : Int) := pD
         obtain ⟨ad362, e362, hx362_0⟩ := Kd.at_int HR0.out a1 p362 q362
         cases e362; replace p362 := eq_true p362; replace q362 := eq_true q362
         go_enter Try.func155, Try.ntmps155
         go_wp2
         go_ret
         exact ⟨by first | rfl | (simp; done) | (simp [*]; done), pW⟩
       · rw [if_neg c6] at H
         exact absurd H (by simp)
     · rw [if_neg c5] at H
       exact absurd H (by simp)
   · rw [if_neg c4] at H
     have c4b0 : decide ((l0.length : Int) ≤ (wrap64 (a1 - 1))) = false := decide_eq_false c4
     clear c4
     obtain ⟨ji7, hji7⟩ : ∃ j_ : Int, (wrap64 (a1 - 1)) = j_ := ⟨_, rfl⟩
     replace H : (if 0 ≤ (ji7) then (if (ji7) < (l0.length : Int) then (some (rd l0 (ji7))) else (none)) else (none)) = some r := by first | (rw [hji7] at H; exact H) | (simp only [hji7] at H ⊢; exact H)
     (try rw [hji7] at c4b0)
     have hji7w : (IntKind.i64.wrap (a1 - 1)) = ji7 := (i64_w _).trans hji7
     by_cases c8 : 0 ≤ (ji7)
     · rw [if_pos c8] at H
       have c8b0 : decide (0 ≤ (ji7)) = true := dt c8
       clear c8
       by_cases c9 : (ji7) < (l0.length : Int)
       · rw [if_pos c9] at H
         have c9b0 : decide ((ji7) < (l0.length : Int)) = true := dt c9
         clear c9
         obtain rfl := sj H
         have p363 : 0 ≤ ((ji7) : Int) := pD
         have q363 : (ji7) < (l0.length : Int) := pD
         obtain ⟨ad363, e363, hx363_0⟩ := Kd.at_int HR0.out (ji7) p363 q363
         cases e363; replace p363 := eq_true p363; replace q363 := eq_true q363
         go_enter Try.func155, Try.ntmps155
         go_wp2
         go_ret
         exact ⟨by first | rfl | (simp; done) | (simp only [← hji7] <;> (first | rfl | simp)) | (simp [*]; done), pW⟩
       · rw [if_neg c9] at H
         exact absurd H (by simp)
     · rw [if_neg c8] at H
       exact absurd H (by simp)
 · rw [if_neg c3] at H
   have c3b0 : ((Int.tmod a1 2) == 1) = false := beq_eq_false_iff_ne.mpr c3
   have c3b1 : ((Int.tmod a1 2) != 1) = true := bne_iff_ne.mpr c3
   by_cases c10 : (wrap64 (a1 + 1)) ≥ (l0.length : Int)
   · rw [if_pos c10] at H
     have c10b0 : decide ((l0.length : Int) ≤ (wrap64 (a1 + 1))) = true := dt c10
     clear c10
     by_cases c11 : 0 ≤ a1
     · rw [if_pos c11] at H
       have c11b0 : decide (0 ≤ a1) = true := dt c11
       clear c11
       by_cases c12 : a1 < (l0.length : Int)
       · rw [if_pos c12] at H
         have c12b0 : decide (a1 < (l0.length : Int)) = true := dt c12
         clear c12
         obtain rfl := sj H
         have p364 : 0 ≤ (a1 : Int) := pD
         have q364 : a1 < (l0.length : Int) := pD
         obtain ⟨ad364, e364, hx364_0⟩ := Kd.at_int HR0.out a1 p364 q364
         cases e364; replace p364 := eq_true p364; replace q364 := eq_true q364
         go_enter Try.func155, Try.ntmps155
         go_wp2
         go_ret
         exact ⟨by first | rfl | (simp; done) | (simp [*]; done), pW⟩
       · rw [if_neg c12] at H
         exact absurd H (by simp)
     · rw [if_neg c11] at H
       exact absurd H (by simp)
   · rw [if_neg c10] at H
     have c10b0 : decide ((l0.length : Int) ≤ (wrap64 (a1 + 1))) = false := decide_eq_false c10
     clear c10
     obtain ⟨ji13, hji13⟩ : ∃ j_ : Int, (wrap64 (a1 + 1)) = j_ := ⟨_, rfl⟩
     replace H : (if 0 ≤ (ji13) then (if (ji13) < (l0.length : Int) then (some (rd l0 (ji13))) else (none)) else (none)) = some r := by first | (rw [hji13] at H; exact H) | (simp only [hji13] at H ⊢; exact H)
     (try rw [hji13] at c10b0)
     have hji13w : (IntKind.i64.wrap (a1 + 1)) = ji13 := (i64_w _).trans hji13
     by_cases c14 : 0 ≤ (ji13)
     · rw [if_pos c14] at H
       have c14b0 : decide (0 ≤ (ji13)) = true := dt c14
       clear c14
       by_cases c15 : (ji13) < (l0.length : Int)
       · rw [if_pos c15] at H
         have c15b0 : decide ((ji13) < (l0.length : Int)) = true := dt c15
         clear c15
         obtain rfl := sj H
         have p365 : 0 ≤ ((ji13) : Int) := pD
         have q365 : (ji13) < (l0.length : Int) := pD
         obtain ⟨ad365, e365, hx365_0⟩ := Kd.at_int HR0.out (ji13) p365 q365
         cases e365; replace p365 := eq_true p365; replace q365 := eq_true q365
         go_enter Try.func155, Try.ntmps155
         go_wp2
         go_ret
         exact ⟨by first | rfl | (simp; done) | (simp only [← hji13] <;> (first | rfl | simp)) | (simp [*]; done), pW⟩
       · rw [if_neg c15] at H
         exact absurd H (by simp)
     · rw [if_neg c14] at H
       exact absurd H (by simp)
def spec_l4Above.l0 : Nat → List Int → List Int → Int → Option (List Int)
 | 0, _, _, _ => none
 | k + 1, x0, x3, x4 => if x4 < (x0.length : Int) then (if 0 ≤ x4 then ((spec_l4Mate.f x0 x4).bind fun t370 => ((spec_l4Join.f k (rd x0 x4) t370).bind fun t371 => (if x3.length < 17592186044416 then (spec_l4Above.l0 k x0 (x3 ++ [t371]) (wrap64 (x4 + 2))) else (none)))) else (none)) else (some x3)
def spec_l4Above.f (k : Nat) (l0 : List Int) : Option (List Int) := spec_l4Above.l0 k l0 (([] : List Int)) 0
theorem spec_l4Above.mono_l : ∀ k, (∀ y0 y1 y2, LeO (spec_l4Above.l0 k y0 y1 y2) (spec_l4Above.l0 (k + 1) y0 y1 y2))
 | 0 => fun _ _ _ r h => by simp [spec_l4Above.l0] at h
 | k + 1 => by
  have ih0 := spec_l4Above.mono_l k
  · intro y0 y1 y2
    unfold spec_l4Above.l0
    repeat' with_reducible first | exact ih0 _ _ _ | exact spec_l4Join.mono _ _ _ | exact LeO.refl _ | exact LeO.none _ | refine LeO.ite ?_ ?_ | refine LeO.bind ?_ (fun _ => ?_)
theorem spec_l4Above.mono : ∀ a0 k, LeO (spec_l4Above.f k a0) (spec_l4Above.f (k + 1) a0) := by
 intro a0 k
 have ih0 := spec_l4Above.mono_l k
 unfold spec_l4Above.f
 repeat' with_reducible first | exact ih0 _ _ _ | exact spec_l4Join.mono _ _ _ | exact LeO.refl _ | exact LeO.none _ | refine LeO.ite ?_ ?_ | refine LeO.bind ?_ (fun _ => ?_)
def spec_l4Above.T5 : Bool × List (List Nat × List Nat) := (true, [([], []), ([], []), ([], []), ([1, 2], [1, 2]), ([3], [3]), ([], []), ([], []), ([5, 6], [5, 6]), ([4, 7, 7], [4, 7]), ([8], [8]), ([0, 9, 8], [0, 9]), ([10, 10, 0, 1, 2, 3, 4, 5, 6, 7, 8, 9, 10], [0, 10])])
def spec_l4Above.B5 : List Nat := [0, 0, 0, 6, 14, 0, 0, 96, 254, 510, 1023, 2047]
theorem spec_l4Above.tab5 : rtab .any (opsOf Try.f136 5) = spec_l4Above.T5 := by kernel_rfl
theorem spec_l4Above.bits5 : waitsOk spec_l4Above.T5.2 spec_l4Above.B5 = true := by kernel_rfl
theorem spec_l4Above.calls (k : Nat) (A0 : Option Addr) (c0 : Nat) (l0 : List Int) (r : List Int) (w : World) (hr0 : Kd.C (Kd.int .i64) w A0 l0.length l0) (hc0 : l0.length ≤ c0) (h : spec_l4Above.f k l0 = some r) :
 Calls Try.prog 136 #[.slice A0 l0.length c0] w fun e w' => ∃ v0_ : Value, e = .returned (v0_) ∧ Kd.R (Kd.int .i64) 2 w' w.heap.size (fun _ => True) v0_ r ∧ Below w.heap.size w w' := by
 have HR0 := am hr0; have HC0 := am hc0; clear hr0 hc0
 have HB := am (Below.refl w.heap.size w)
 have H : (spec_l4Above.l0 k l0 (([] : List Int)) 0) = some r := h
 clear h
 obtain ⟨y366, hy366⟩ : ∃ y_ : List Int, y_ = (([] : List Int)) := ⟨_, rfl⟩
 replace H : (spec_l4Above.l0 k l0 y366 0) = some r := by first | (rw [hy366]; with_reducible exact H) | (have H2_ := (Option.bind_some _ _).symm.trans H; rw [hy366]; with_reducible exact H2_) | (have H2_ := (Option.bind_some _ _).symm.trans H; with_reducible exact H2_) | with_reducible exact H | (rw [hy366]; exact H) | exact H
 have Ny366 := am hy366; clear hy366
 have H' := am H
 clear H
 go_enter Try.func136, Try.ntmps136
 go_wp2_with (first | ((with_reducible refine gate_dst (N := 5) rfl ?_); refine Kd.R_lit (Kd.int .i64) _ 2 ?hg (N := 5) ?hd (xs := ([] : List Int)) (inner := []) (ok := fun _ => True) (okp := fun _ => True) ?hr ?hp (fun _ hk => hk) trivial (Below.refl _ _) (Nat.le_refl _) (by simp) ?_; (case hd => rfl); (case hg => rfl); (case hr => first | (go_simp; done) | (go_simp; rfl)); (case hp => exact (Reps.none _ _)); intro v367 w2 ho3 hb hg_ hnew_; clear hg_ hnew_; (first | rw [← Ny366.out] at ho3 | (simp only [Int.reduceToNat] at ho3; rw [← Ny366.out] at ho3)); have n_ := t2 (rL ho3 (bs_ pB)) (bz_ pB hb); clear HB; obtain ⟨HO368, HB⟩ := n_; clear hb ho3))
 go_loopg [3, 4] k (fun kq v3 v4 w' => ∃ (x3_1 : List Int) (x4_1 : Int), v4 = .int .i64 x4_1 ∧ Aside0 (spec_l4Above.l0 kq l0 x3_1 x4_1 = some r) ∧ Aside0 (kq ≤ k) ∧ Aside0 (Kd.R (Kd.int .i64) 2 w' w.heap.size (fun _ => True) v3 x3_1) ∧ Aside0 (Below w.heap.size w w'))
 case atStart => exact ⟨(y366), (0), pF, H', ⟨Nat.le_refl _⟩, ⟨(pR HO368)⟩, ⟨pB⟩⟩
 case round =>
  clear H'
  obtain ⟨x3_1, x4_1, rfl, HA, HK1, HO_3, HB⟩ := hrel
  cases gk with
  | zero => exact absurd HA.out (by simp [spec_l4Above.l0])
  | succ k1 =>
   have H := HA.out
   clear HA
   simp only [spec_l4Above.l0] at H
   by_cases c4 : x4_1 < (l0.length : Int)
   · rw [if_pos c4] at H
     have c4b0 : decide (x4_1 < (l0.length : Int)) = true := dt c4
     clear c4
     by_cases c5 : 0 ≤ x4_1
     · rw [if_pos c5] at H
       have c5b0 : decide (0 ≤ x4_1) = true := dt c5
       clear c5
       obtain ⟨t370, A60, H⟩ := bO H
       replace H : ((spec_l4Join.f k1 (rd l0 x4_1) t370).bind fun t371 => (if x3_1.length < 17592186044416 then (spec_l4Above.l0 k1 l0 (x3_1 ++ [t371]) (wrap64 (x4_1 + 2))) else (none))) = some r := H
       have A6 := am A60; clear A60
       obtain ⟨t371, A70, H⟩ := bO H
       replace H : (if x3_1.length < 17592186044416 then (spec_l4Above.l0 k1 l0 (x3_1 ++ [t371]) (wrap64 (x4_1 + 2))) else (none)) = some r := H
       have A7 := am A70; clear A70
       by_cases c8 : x3_1.length < 17592186044416
       · rw [if_pos c8] at H
         have LMc8 := am c8; clear c8
         obtain ⟨y372, hy372⟩ : ∃ y_ : List Int, y_ = (x3_1 ++ [t371]) := ⟨_, rfl⟩
         replace H : (spec_l4Above.l0 k1 l0 y372 (wrap64 (x4_1 + 2))) = some r := by first | (rw [hy372]; with_reducible exact H) | (have H2_ := (Option.bind_some _ _).symm.trans H; rw [hy372]; with_reducible exact H2_) | (have H2_ := (Option.bind_some _ _).symm.trans H; with_reducible exact H2_) | with_reducible exact H | (rw [hy372]; exact H) | exact H
         have Ny372 := am hy372; clear hy372
         have H' := am H
         clear H
         try go_wp2
         have n_ := t2 (Kd.R_drew HO_3.out) (below_drew1 HB.out)
         clear HO_3 HB; obtain ⟨HO_3, HB⟩ := n_
         have p369 : 0 ≤ (x4_1 : Int) := pD
         have q369 : x4_1 < (l0.length : Int) := pD
         obtain ⟨ad369, e369, hx369_0⟩ := Kd.at_int HR0.out x4_1 p369 q369
         have hw369_0 := hx369_0
         cases e369; replace hx369_0 := cb HB hx369_0; replace p369 := eq_true p369; replace q369 := eq_true q369
         refine start_ (n := 12) (S := fun w' => w'.cell? (ad369.add (x4_1).toNat) = some (.int .i64 (rd l0 x4_1))) (ds := []) #[false, false, false, false, false, false, false, false, false, false, false, false] (by kernel_rfl) rfl rfl ((cb HB hw369_0)) (fun hHeld => ?_); refine with_tabW spec_l4Above.tab5 spec_l4Above.bits5 (fun HT_ HW_ => ?_)
         generalize wr.drew = w9 at HO_3 HB hx369_0 hHeld ⊢
         refine rP 0 (some 12) #[true, false, false, false, false, false, false, false, false, false, false, false] (any_of HT_.out (by kernel_rfl)) ?_
         refine rP 1 (some 13) #[true, true, false, false, false, false, false, false, false, false, false, false] (any_of HT_.out (by kernel_rfl)) ?_
         refine rP 2 (some 14) #[true, true, true, false, false, false, false, false, false, false, false, false] (any_of HT_.out (by kernel_rfl)) ?_
         refine rP 3 (some 15) #[true, true, true, true, false, false, false, false, false, false, false, false] (any_of HT_.out (by kernel_rfl)) ?_
         refine rP 5 (some 17) #[true, true, true, true, false, true, false, false, false, false, false, false] (any_of HT_.out (by kernel_rfl)) ?_
         refine rP 6 (some 18) #[true, true, true, true, false, true, true, false, false, false, false, false] (any_of HT_.out (by kernel_rfl)) ?_
         refine rT 4 (some 16) #[true, true, true, true, true, true, true, false, false, false, false, false] (take_ofW HT_.out HW_.out (by kernel_rfl)) hHeld ?_
         refine one_ (i := 7) (N := some 19) #[true, true, true, true, true, true, true, true, false, false, false, false] rfl rfl (one_of HT_.out (by kernel_rfl)) (by decide) (fun K hK => ?_)
         refine goes_ Try.func155 (by kernel_rfl) rfl #[.slice (some ad369) l0.length c0, .int .i64 x4_1] (by rfl) rfl rfl pA ?_
         with_reducible refine (spec_l4Mate.calls _ _ l0 x4_1 t370 _ ?side1 ?side2 A6.out).mono ?_
         (case side1 => exact pC (Kd.C_below HR0.out HB.out))
         (case side2 => exact HC0.out)
         rintro e w' ⟨rfl, ⟨nd, rfl⟩⟩
         refine ⟨_, rfl, ?_⟩
         refine hK.out _ _ ((cb HB hw369_0)) (fun hHeld => ?_)
         clear hK K
         refine rN ?_
         refine one_ (i := 8) (N := some 20) #[true, true, true, true, true, true, true, true, true, false, false, false] rfl rfl (one_of HT_.out (by kernel_rfl)) (by decide) (fun K hK => ?_)
         refine goes_ Try.func154 (by kernel_rfl) rfl #[.int .i64 (rd l0 x4_1), .int .i64 t370] (by rfl) rfl rfl pA ?_
         with_reducible refine (spec_l4Join.calls k1 (rd l0 x4_1) t370 t371 _ A7.out).mono ?_
         rintro e w10 ⟨rfl, hb⟩
         refine ⟨_, rfl, ?_⟩
         have n_ := t2 (Kd.R_below (pR HO_3) hb) (bz_ pB hb)
         clear HO_3 HB; obtain ⟨HO_3, HB⟩ := n_; (try clear hb); (try clear hb2); (try clear hk); (try clear hi)
         refine hK.out _ _ ((cb HB hw369_0)) (fun hHeld => ?_)
         clear hK K
         refine rN ?_
         refine one_ (i := 9) (N := some 21) #[true, true, true, true, true, true, true, true, true, true, false, false] rfl rfl (one_of HT_.out (by kernel_rfl)) (by decide) (fun K hK => ?_)
         refine value_ (w1 := ?_) (v := ?_) (by rfl) rfl ?_ ?_
         rotate_left 2
         · go_simp
           constructor
           · rfl
           · rfl
         refine hK.out _ _ ((World.cell?_alloc_lt _ _ _ (World.block_lt_of_cell? _ _ ((cb HB hw369_0)))).trans ((cb HB hw369_0))) (fun hHeld => ?_)
         clear hK K
         refine rN ?_
         refine one_ (i := 10) (N := some 22) #[true, true, true, true, true, true, true, true, true, true, true, false] rfl rfl (one_of HT_.out (by kernel_rfl)) (by decide) (fun K hK => ?_)
         refine Kd.R_append_step (Kd.int .i64) (w0 := w) w.heap.size (by rfl) (.tmp 12) (.tmp 21) 32 2 (.int .i64 0) 8 rfl Try.underlying32 info2 rfl (by decide) (by omega) u3 x3_1 t371 [.int .i64 t371] (fun _ => True) (fun _ => False) rfl rfl ?aP (fun _ hk => hk.elim) ?aF ?aO ?aB ?aS ?aL ?_
         (case aP => exact rfl)
         (case aB => exact pB)
         (case aF => exact (fun _ _ => trivial))
         (case aO => exact (pR HO_3))
         (case aS => exact (bs_ pB))
         (case aL => have := LMc8.out; omega)
         intro v373 w11 ho hb hg hat
         rw [← Ny372.out] at ho
         have n_ := t2 (hb) (ho)
         clear HB HO_3; obtain ⟨HB, HO374⟩ := n_; clear ho hb hg hat
         refine hK.out _ _ ((cb HB hw369_0)) (fun hHeld => ?_)
         clear hK K
         refine rN ?_
         refine rP 11 (some 3) #[true, true, true, true, true, true, true, true, true, true, true, true] (any_of HT_.out (by kernel_rfl)) ?_
         refine done_ (done_of HT_.out (by kernel_rfl)) ?_
         try go_wp2
         go_roundg k1
         case measure => have := HK1.out; omega
         case rel => exact ⟨(y372), (wrap64 (x4_1 + 2)), pF, H', ⟨by have := HK1.out; omega⟩, ⟨(pR HO374)⟩, ⟨pB⟩⟩
       · rw [if_neg c8] at H
         exact absurd H (by simp)
     · rw [if_neg c5] at H
       exact absurd H (by simp)
   · rw [if_neg c4] at H
     have c4b0 : decide (x4_1 < (l0.length : Int)) = false := decide_eq_false c4
     clear c4
     obtain rfl := sj H
     go_wp2
     go_ret
     exact ⟨_, pE, (pR HO_3), pB⟩
mutual
def spec_l4Twin.l0 : Nat → List Int → Option (Bool)
 | 0, _ => none
 | k + 1, x3 => if (x3.length : Int) > 1 then (spec_l4Twin.l1 k x3 0) else (some false)
def spec_l4Twin.l1 : Nat → List Int → Int → Option (Bool)
 | 0, _, _ => none
 | k + 1, x3, x4 => if (wrap64 (x4 + 1)) < (x3.length : Int) then (if 0 ≤ x4 then (if x4 < (x3.length : Int) then (if 0 ≤ (wrap64 (x4 + 1)) then (if (rd x3 x4) = (rd x3 (wrap64 (x4 + 1))) then (some true) else (spec_l4Twin.l1 k x3 (wrap64 (x4 + 2)))) else (none)) else (none)) else (none)) else ((spec_l4Above.f k x3).bind fun t377 => (spec_l4Twin.l0 k t377))
end
def spec_l4Twin.f (k : Nat) (l0 : List Int) : Option (Bool) := spec_l4Twin.l0 k l0
theorem spec_l4Twin.mono_l : ∀ k, (∀ y0, LeO (spec_l4Twin.l0 k y0) (spec_l4Twin.l0 (k + 1) y0)) ∧ (∀ y0 y1, LeO (spec_l4Twin.l1 k y0 y1) (spec_l4Twin.l1 (k + 1) y0 y1))
 | 0 => ⟨fun _ r h => by simp [spec_l4Twin.l0] at h, fun _ _ r h => by simp [spec_l4Twin.l1] at h⟩
 | k + 1 => by
  obtain ⟨ih0, ih1⟩ := spec_l4Twin.mono_l k
  refine ⟨?_, ?_⟩
  · intro y0
    unfold spec_l4Twin.l0
    repeat' with_reducible first | exact ih0 _ | exact ih1 _ _ | exact spec_l4Above.mono _ _ | exact LeO.refl _ | exact LeO.none _ | refine LeO.ite ?_ ?_ | refine LeO.bind ?_ (fun _ => ?_)
  · intro y0 y1
    unfold spec_l4Twin.l1
    repeat' with_reducible first | exact ih0 _ | exact ih1 _ _ | exact spec_l4Above.mono _ _ | exact LeO.refl _ | exact LeO.none _ | refine LeO.ite ?_ ?_ | refine LeO.bind ?_ (fun _ => ?_)
theorem spec_l4Twin.mono : ∀ a0 k, LeO (spec_l4Twin.f k a0) (spec_l4Twin.f (k + 1) a0) := by
 intro a0 k
 obtain ⟨ih0, ih1⟩ := spec_l4Twin.mono_l k
 unfold spec_l4Twin.f
 repeat' with_reducible first | exact ih0 _ | exact ih1 _ _ | exact spec_l4Above.mono _ _ | exact LeO.refl _ | exact LeO.none _ | refine LeO.ite ?_ ?_ | refine LeO.bind ?_ (fun _ => ?_)
theorem spec_l4Twin.calls (k : Nat) (P0_ : Nat → Prop) (A0 : Option Addr) (c0 : Nat) (l0 : List Int) (r : Bool) (w : World) (hs0 : Kd.V (Kd.int .i64) 2 w w.heap.size (fun k_ => P0_ k_) (.slice A0 l0.length c0) l0) (h : spec_l4Twin.f k l0 = some r) :
 Calls Try.prog 133 #[.slice A0 l0.length c0] w fun e w' => e = .returned (.bool r) ∧ Below w.heap.size w w' := by
 have HO0 := am (show Kd.V (Kd.int .i64) 2 w w.heap.size (fun k_ => (P0_ k_ ∨ w.heap.size ≤ k_)) (.slice A0 l0.length c0) l0 from Kd.V_mono hs0 (fun k_ hk => .inl hk))
 have HB := am (Below.refl w.heap.size w)
 have H : (spec_l4Twin.l0 k l0) = some r := h
 clear h
 have H' := am H
 clear H
 go_enter Try.func133, Try.ntmps133
 go_wp2
 repeat (go_quiet (fail); try go_wp2)
 go_loopg [3] k (fun kq v3 w' => ∃ (x3_1 : List Int), Aside0 (spec_l4Twin.l0 kq x3_1 = some r) ∧ Aside0 (kq ≤ k) ∧ Aside0 (Kd.V (Kd.int .i64) 2 w' w.heap.size (fun k_ => (P0_ k_ ∨ w.heap.size ≤ k_)) v3 x3_1) ∧ Aside0 (Below w.heap.size w w'))
 case atStart => exact ⟨(l0), H', ⟨Nat.le_refl _⟩, ⟨by (with_reducible repeat (first | apply Kd.V_alloc | apply Kd.V_drewN | apply Kd.V_drew)); exact HO0.out⟩, ⟨pB⟩⟩
 case round =>
  clear H'
  obtain ⟨x3_1, HA, HK1, HO_3, HB⟩ := hrel
  cases gk with
  | zero => exact absurd HA.out (by simp [spec_l4Twin.l0])
  | succ k1 =>
   have H := HA.out
   clear HA
   simp only [spec_l4Twin.l0] at H
   by_cases c2 : (x3_1.length : Int) > 1
   · rw [if_pos c2] at H
     have c2b0 : decide (1 < (x3_1.length : Int)) = true := dt c2
     have c2b1 : decide (1 < x3_1.length) = true := dt (by omega)
     clear c2
     have H' := am H
     clear H
     obtain ⟨Ao3, co3, eo3⟩ := Kd.V_slice HO_3.out
     subst eo3
     go_wp2
     repeat (go_quiet (fail); try go_wp2)
     go_loopg [4] k1 (fun kq v4 w' => ∃ (x4_2 : Int), v4 = .int .i64 x4_2 ∧ Aside0 (spec_l4Twin.l1 kq x3_1 x4_2 = some r) ∧ Aside0 (kq ≤ k1) ∧ Aside0 (Kd.V (Kd.int .i64) 2 w' w.heap.size (fun k_ => (P0_ k_ ∨ w.heap.size ≤ k_)) (.slice Ao3 x3_1.length co3) x3_1) ∧ Aside0 (Below w.heap.size w w'))
     case atStart => exact ⟨(0), pF, H', ⟨Nat.le_refl _⟩, ⟨by (with_reducible repeat (first | apply Kd.V_alloc | apply Kd.V_drewN | apply Kd.V_drew)); exact HO_3.out⟩, ⟨pB⟩⟩
     case round =>
      clear H'
      (try clear c2); (try clear c2b0); (try clear c2b1)
      obtain ⟨x4_2, rfl, HA, HK2, HO_3, HB⟩ := hrel
      cases gk with
      | zero => exact absurd HA.out (by simp [spec_l4Twin.l1])
      | succ k2 =>
       have H := HA.out
       clear HA
       simp only [spec_l4Twin.l1] at H
       by_cases c4 : (wrap64 (x4_2 + 1)) < (x3_1.length : Int)
       · rw [if_pos c4] at H
         have c4b0 : decide ((wrap64 (x4_2 + 1)) < (x3_1.length : Int)) = true := dt c4
         clear c4
         by_cases c5 : 0 ≤ x4_2
         · rw [if_pos c5] at H
           have c5b0 : decide (0 ≤ x4_2) = true := dt c5
           clear c5
           by_cases c6 : x4_2 < (x3_1.length : Int)
           · rw [if_pos c6] at H
             have c6b0 : decide (x4_2 < (x3_1.length : Int)) = true := dt c6
             clear c6
             obtain ⟨ji7, hji7⟩ : ∃ j_ : Int, (wrap64 (x4_2 + 1)) = j_ := ⟨_, rfl⟩
             replace H : (if 0 ≤ (ji7) then (if (rd x3_1 x4_2) = (rd x3_1 (ji7)) then (some true) else (spec_l4Twin.l1 k2 x3_1 (wrap64 (x4_2 + 2)))) else (none)) = some r := by first | (rw [hji7] at H; exact H) | (simp only [hji7] at H ⊢; exact H)
             (try rw [hji7] at c4b0)
             have hji7w : (IntKind.i64.wrap (x4_2 + 1)) = ji7 := (i64_w _).trans hji7
             by_cases c8 : 0 ≤ (ji7)
             · rw [if_pos c8] at H
               have c8b0 : decide (0 ≤ (ji7)) = true := dt c8
               clear c8
               by_cases c9 : (rd x3_1 x4_2) = (rd x3_1 (ji7))
               · rw [if_pos c9] at H
                 have c9b0 : ((rd x3_1 x4_2) == (rd x3_1 (ji7))) = true := beq_iff_eq.mpr c9
                 have c9b1 : ((rd x3_1 x4_2) != (rd x3_1 (ji7))) = false := bne_eq_false_iff_eq.mpr c9
                 clear c9
                 obtain rfl := sj H
                 have p375 : 0 ≤ (x4_2 : Int) := pD
                 have q375 : x4_2 < (x3_1.length : Int) := pD
                 obtain ⟨ad375, e375, hx375_0⟩ := Kd.at_int (Kd.V_reads' HO_3.out).2.2 x4_2 p375 q375
                 cases e375; replace p375 := eq_true p375; replace q375 := eq_true q375
                 have p376 : 0 ≤ ((ji7) : Int) := pD
                 have q376 : (ji7) < (x3_1.length : Int) := pD
                 obtain ⟨ad376, e376, hx376_0⟩ := Kd.at_int (Kd.V_reads' HO_3.out).2.2 (ji7) p376 q376
                 obtain rfl : ad375 = ad376 := (by injection e376)
                 replace p376 := eq_true p376; replace q376 := eq_true q376
                 go_wp2
                 repeat (go_quiet (fail); try go_wp2)
                 go_ret
                 exact ⟨by first | rfl | (simp [errW_none, errW_some] <;> rfl) | (simp only [← hji7]; first | rfl | (simp [errW_none, errW_some] <;> rfl)) | (simp [*, errW_none, errW_some] <;> rfl), pB⟩
               · rw [if_neg c9] at H
                 have c9b0 : ((rd x3_1 x4_2) == (rd x3_1 (ji7))) = false := beq_eq_false_iff_ne.mpr c9
                 have c9b1 : ((rd x3_1 x4_2) != (rd x3_1 (ji7))) = true := bne_iff_ne.mpr c9
                 have H' := am H
                 clear H
                 have p375 : 0 ≤ (x4_2 : Int) := pD
                 have q375 : x4_2 < (x3_1.length : Int) := pD
                 obtain ⟨ad375, e375, hx375_0⟩ := Kd.at_int (Kd.V_reads' HO_3.out).2.2 x4_2 p375 q375
                 cases e375; replace p375 := eq_true p375; replace q375 := eq_true q375
                 have p376 : 0 ≤ ((ji7) : Int) := pD
                 have q376 : (ji7) < (x3_1.length : Int) := pD
                 obtain ⟨ad376, e376, hx376_0⟩ := Kd.at_int (Kd.V_reads' HO_3.out).2.2 (ji7) p376 q376
                 obtain rfl : ad375 = ad376 := (by injection e376)
                 replace p376 := eq_true p376; replace q376 := eq_true q376
                 go_wp2
                 repeat (go_quiet (fail); try go_wp2)
                 go_roundg k2
                 case measure => have := HK1.out; have := HK2.out; omega
                 case rel => exact ⟨(wrap64 (x4_2 + 2)), pF, H', ⟨by have := HK1.out; have := HK2.out; omega⟩, ⟨by (with_reducible repeat (first | apply Kd.V_alloc | apply Kd.V_drewN | apply Kd.V_drew)); exact HO_3.out⟩, ⟨pB⟩⟩
             · rw [if_neg c8] at H
               exact absurd H (by simp)
           · rw [if_neg c6] at H
             exact absurd H (by simp)
         · rw [if_neg c5] at H
           exact absurd H (by simp)
       · rw [if_neg c4] at H
         have c4b0 : decide ((wrap64 (x4_2 + 1)) < (x3_1.length : Int)) = false := decide_eq_false c4
         clear c4
         obtain ⟨t377, A100, H⟩ := bO H
         replace H : (spec_l4Twin.l0 k2 t377) = some r := H
         have A10 := am A100; clear A100
         have H' := am H
         clear H
         go_wp2_with (first | (go_at_call 136; (with_reducible refine (spec_l4Above.calls k2 _ _ x3_1 t377 _ ?side1 ?side2 A10.out).mono ?_); (case side1 => exact pC (Kd.V_reads' HO_3.out).2.2); (case side2 => exact (Kd.V_reads' HO_3.out).2.1); rintro e w11 ⟨v378, rfl, ho0, hb⟩; have n_ := t3 (Kd.V_elder' (by (with_reducible repeat (first | apply Kd.V_alloc | apply Kd.V_drewN | apply Kd.V_drew)); exact HO_3.out) (rB ho0) hb) (rL (Kd.R_newM (M := fun k_ => (w.heap.size ≤ k_)) ho0 (bs_ pB) (fun k_ h_ => h_)) (bs_ pB)) (bz_ pB hb); clear HO_3 HB; obtain ⟨HO_3, HO379, HB⟩ := n_; (try clear hb); (try clear ho0)))
         repeat (go_quiet (first | (go_at_call 136; (with_reducible refine (spec_l4Above.calls k2 _ _ x3_1 t377 _ ?side1 ?side2 A10.out).mono ?_); (case side1 => exact pC (Kd.V_reads' HO_3.out).2.2); (case side2 => exact (Kd.V_reads' HO_3.out).2.1); rintro e w11 ⟨v378, rfl, ho0, hb⟩; have n_ := t3 (Kd.V_elder' (by (with_reducible repeat (first | apply Kd.V_alloc | apply Kd.V_drewN | apply Kd.V_drew)); exact HO_3.out) (rB ho0) hb) (rL (Kd.R_newM (M := fun k_ => (w.heap.size ≤ k_)) ho0 (bs_ pB) (fun k_ h_ => h_)) (bs_ pB)) (bz_ pB hb); clear HO_3 HB; obtain ⟨HO_3, HO379, HB⟩ := n_; (try clear hb); (try clear ho0))); try go_wp2_with (first | (go_at_call 136; (with_reducible refine (spec_l4Above.calls k2 _ _ x3_1 t377 _ ?side1 ?side2 A10.out).mono ?_); (case side1 => exact pC (Kd.V_reads' HO_3.out).2.2); (case side2 => exact (Kd.V_reads' HO_3.out).2.1); rintro e w11 ⟨v378, rfl, ho0, hb⟩; have n_ := t3 (Kd.V_elder' (by (with_reducible repeat (first | apply Kd.V_alloc | apply Kd.V_drewN | apply Kd.V_drew)); exact HO_3.out) (rB ho0) hb) (rL (Kd.R_newM (M := fun k_ => (w.heap.size ≤ k_)) ho0 (bs_ pB) (fun k_ h_ => h_)) (bs_ pB)) (bz_ pB hb); clear HO_3 HB; obtain ⟨HO_3, HO379, HB⟩ := n_; (try clear hb); (try clear ho0))))
         go_roundg k2
         case measure => have := HK1.out; have := HK2.out; omega
         case rel => exact ⟨(t377), H', ⟨by have := HK1.out; have := HK2.out; omega⟩, ⟨Kd.V_mono (Kd.R_V (pT (Kd.R_mono HO379.out (fun _ hk => hk.1)))) (fun k_ hk => by first | exact ⟨(.inr (hk.1)), hk.2⟩ | exact (.inr (hk)))⟩, ⟨pB⟩⟩
   · rw [if_neg c2] at H
     have c2b0 : decide (1 < (x3_1.length : Int)) = false := decide_eq_false c2
     have c2b1 : decide (1 < x3_1.length) = false := decide_eq_false (by omega)
     clear c2
     obtain rfl := sj H
     obtain ⟨Ao12, co12, eo12⟩ := Kd.V_slice HO_3.out
     subst eo12
     go_wp2
     repeat (go_quiet (fail); try go_wp2)
     go_ret
     exact ⟨pE, pB⟩
end Go.Proofs.Ythjlbpgiaehjnaa.QFnExactBlockRoot
