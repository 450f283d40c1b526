-- written by this session's program (wip/tools/myprint.py)
import Derived.Test.YthjlbpgiaehjnaaQFnExactBlockFaultx0
import Derived.Test.YthjlbpgiaehjnaaQFnExactBlockFaultx6
-- squeezed
namespace Go.Proofs.Ythjlbpgiaehjnaa.QFnExactBlockFault
open Go.RowKit Go.Proofs.YthjlbpgiaehjnaaW.PrintWords Go.Proofs.YthjlbpgiaehjnaaW.PrintLast Go.Proofs.YthjlbpgiaehjnaaW.PrintMore
attribute [local go_sem] max2_int min2_int max_two min_two max_three min_three max_four min_four   -- for this text's walks alone
set_option linter.unusedVariables false
set_option linter.unusedSimpArgs false
set_option maxHeartbeats 8000000
set_option maxRecDepth 100000
def spec_l1SumInts.l0 : Nat → List Int → List Int → Int → Option (Int)
 | 0, _, _, _ => none
 | k + 1, x0, x3, x4 => if x4 < (x0.length : Int) then (if 0 ≤ x4 then ((spec_l1Four.f (rd x0 x4)).bind fun t262 => (if x3.length + t262.length < 140737488355328 then (spec_l1SumInts.l0 k x0 (x3 ++ t262) (wrap64 (x4 + 1))) else (none))) else (none)) else ((spec_l1Sum.f k x3).bind fun t268 => (some t268))
def spec_l1SumInts.f (k : Nat) (l0 : List Int) : Option (Int) := spec_l1SumInts.l0 k l0 (([] : List Int)) 0
theorem spec_l1SumInts.mono_l : ∀ k, (∀ y0 y1 y2, LeO (spec_l1SumInts.l0 k y0 y1 y2) (spec_l1SumInts.l0 (k + 1) y0 y1 y2))
 | 0 => fun _ _ _ r h => by simp [spec_l1SumInts.l0] at h
 | k + 1 => by
  have ih0 := spec_l1SumInts.mono_l k
  · intro y0 y1 y2
    unfold spec_l1SumInts.l0
    repeat' with_reducible first | exact ih0 _ _ _ | exact spec_l1Sum.mono _ _ | exact LeO.refl _ | exact LeO.none _ | refine LeO.ite ?_ ?_ | refine LeO.bind ?_ (fun _ => ?_)
theorem spec_l1SumInts.mono : ∀ a0 k, LeO (spec_l1SumInts.f k a0) (spec_l1SumInts.f (k + 1) a0) := by
 intro a0 k
 have ih0 := spec_l1SumInts.mono_l k
 unfold spec_l1SumInts.f
 repeat' with_reducible first | exact ih0 _ _ _ | exact spec_l1Sum.mono _ _ | exact LeO.refl _ | exact LeO.none _ | refine LeO.ite ?_ ?_ | refine LeO.bind ?_ (fun _ => ?_)
theorem spec_l1SumInts.calls (k : Nat) (A0 : Option Addr) (c0 : Nat) (l0 : List Int) (r : Int) (w : World) (hr0 : Kd.C (Kd.int .i64) w A0 l0.length l0) (hc0 : l0.length ≤ c0) (h : spec_l1SumInts.f k l0 = some r) :
 Calls Try.prog 160 #[.slice A0 l0.length c0] w fun e w' => e = .returned (.int .i64 r) ∧ Below w.heap.size w w' := by
 have HR0 := Aside0.mk hr0; have HC0 := Aside0.mk hc0; clear hr0 hc0
 have HB := Aside0.mk (Below.refl w.heap.size w)
 have H : (spec_l1SumInts.l0 k l0 (([] : List Int)) 0) = some r := h
 clear h
 obtain ⟨y258, hy258⟩ : ∃ y_ : List Int, y_ = (([] : List Int)) := ⟨_, rfl⟩
 replace H : (spec_l1SumInts.l0 k l0 y258 0) = some r := by first | (rw [hy258]; with_reducible exact H) | (have H2_ := (Option.bind_some _ _).symm.trans H; rw [hy258]; with_reducible exact H2_) | (have H2_ := (Option.bind_some _ _).symm.trans H; with_reducible exact H2_) | with_reducible exact H | (rw [hy258]; exact H) | exact H
 have Ny258 := Aside0.mk hy258; clear hy258
 have H' := Aside0.mk H
 clear H
 go_enter Try.func160, Try.ntmps160
 go_wp2_with (first | ((with_reducible refine gate_dst (N := 5) rfl ?_); refine Kd.R_lit (Kd.int .u8) _ 5 ?hg (N := 5) ?hd (xs := ([] : List Int)) (inner := []) (ok := fun _ => True) (okp := fun _ => True) ?hr ?hp (fun _ hk => hk) trivial (Below.refl _ _) (Nat.le_refl _) (by simp) ?_; (case hd => rfl); (case hg => rfl); (case hr => first | (go_simp; done) | (go_simp; rfl)); (case hp => exact (Reps.none _ _)); intro v259 w2 ho3 hb hg_ hnew_; clear hg_ hnew_; (first | rw [← Ny258.out] at ho3 | (simp only [Int.reduceToNat] at ho3; rw [← Ny258.out] at ho3)); have n_ := t2 (Kd.R_lower ho3 (below_size pB)) (below_step pB hb); clear HB; obtain ⟨HO260, HB⟩ := n_; clear hb ho3))
 go_loopg [3, 4] k (fun kq v3 v4 w' => ∃ (x3_1 : List Int) (x4_1 : Int), v4 = .int .i64 x4_1 ∧ Aside0 (spec_l1SumInts.l0 kq l0 x3_1 x4_1 = some r) ∧ Aside0 (kq ≤ k) ∧ Aside0 (Kd.R (Kd.int .u8) 5 w' w.heap.size (fun _ => True) v3 x3_1) ∧ Aside0 (Below w.heap.size w w'))
 case atStart => exact ⟨(y258), (0), pF, H', ⟨Nat.le_refl _⟩, ⟨(pR HO260)⟩, ⟨pB⟩⟩
 case round =>
  clear H'
  (try clear c1); (try clear p2)
  obtain ⟨x3_1, x4_1, rfl, HA, HK1, HO_3, HB⟩ := hrel
  cases gk with
  | zero => exact absurd HA.out (by simp [spec_l1SumInts.l0])
  | succ k1 =>
   have H := HA.out
   clear HA
   simp only [spec_l1SumInts.l0] at H
   by_cases c4 : x4_1 < (l0.length : Int)
   · rw [if_pos c4] at H
     have c4b0 : decide (x4_1 < (l0.length : Int)) = true := decide_eq_true c4
     clear c4
     by_cases c5 : 0 ≤ x4_1
     · rw [if_pos c5] at H
       have c5b0 : decide (0 ≤ x4_1) = true := decide_eq_true c5
       clear c5
       obtain ⟨t262, A60, H⟩ := bO H
       replace H : (if x3_1.length + t262.length < 140737488355328 then (spec_l1SumInts.l0 k1 l0 (x3_1 ++ t262) (wrap64 (x4_1 + 1))) else (none)) = some r := H
       have A6 := Aside0.mk A60; clear A60
       by_cases c7 : x3_1.length + t262.length < 140737488355328
       · rw [if_pos c7] at H
         have LMc7 := Aside0.mk c7; clear c7
         obtain ⟨y265, hy265⟩ : ∃ y_ : List Int, y_ = (x3_1 ++ t262) := ⟨_, rfl⟩
         replace H : (spec_l1SumInts.l0 k1 l0 y265 (wrap64 (x4_1 + 1))) = some r := by first | (rw [hy265]; with_reducible exact H) | (have H2_ := (Option.bind_some _ _).symm.trans H; rw [hy265]; with_reducible exact H2_) | (have H2_ := (Option.bind_some _ _).symm.trans H; with_reducible exact H2_) | with_reducible exact H | (rw [hy265]; exact H) | exact H
         have Ny265 := Aside0.mk hy265; clear hy265
         have H' := Aside0.mk H
         clear H
         have p261 : 0 ≤ (x4_1 : Int) := pD
         have q261 : x4_1 < (l0.length : Int) := pD
         obtain ⟨ad261, e261, hx261_0⟩ := Kd.at_int HR0.out x4_1 p261 q261
         cases e261; replace hx261_0 := cb HB hx261_0; replace p261 := eq_true p261; replace q261 := eq_true q261
         go_wp2_with (first | ((with_reducible refine gate_callee (f := 161) rfl ?_); refine goesL_ (some 17) rfl rfl Try.func161 (by kernel_rfl) rfl #[.int .i64 (rd l0 x4_1)] rfl pA ?_; (with_reducible refine (spec_l1Four.calls (rd l0 x4_1) t262 _ A6.out).mono ?_); rintro e w8 ⟨v263, rfl, ho0, hb⟩; refine ⟨_, rfl, ?_⟩; have n_ := t3 (Kd.R_elder' (pR HO_3) (Kd.R_base ho0) hb) (Kd.R_lower (Kd.R_new' ho0 (Kd.R_lt (pR HO_3))) (below_size pB)) (below_step pB hb); clear HO_3 HB; obtain ⟨HO_3, HO264, HB⟩ := n_; (try clear hb); (try clear ho0); obtain ⟨Ao10, co10, eo10⟩ := Kd.R_slice HO264.out; subst eo10) | ((with_reducible refine gate_builtin (b := .append) (xs := #[.tmp 12, .tmp 17]) rfl ?_); at_builtin; refine Kd.R_append_rows (Kd.int .u8) (w0 := w) w.heap.size rfl (.tmp 12) (.tmp 17) 22 5 (.int .u8 0) 1 rfl Try.underlying22 info5 rfl (by decide) (by omega) u3 x3_1 t262 _ _ _ (fun k_ => some k_ ≠ (.slice Ao10 t262.length co10 : Value).ownBlock) (fun _ => False) rfl rfl ?aO ?aR (fun _ _ h => h) (fun _ h => h.elim) ?aF ?aB ?aS ?aL ?_; (case aR => exact pC (Kd.R_reads' HO264.out).2.2); (case aB => exact pB); (case aF => exact (fun k_ hk => Kd.fresh' (Kd.R_lt (pR HO264)) k_ hk)); (case aO => exact (pT (Kd.R_mono HO_3.out (fun _ hk => hk.2)))); (case aS => exact (below_size pB)); (case aL => have := LMc7.out; omega); intro v266 w9 ho hb hg hat; rw [← Ny265.out] at ho; have n_ := t3 (Kd.R_after (ok := (fun _ => True)) (pR HO264) hg hat) (hb) (ho); clear HO264 HB HO_3; obtain ⟨HO264, HB, HO267⟩ := n_; clear ho hb hg hat))
         go_roundg k1
         case measure => have := HK1.out; omega
         case rel => exact ⟨(y265), (wrap64 (x4_1 + 1)), pF, H', ⟨by have := HK1.out; omega⟩, ⟨(pT (Kd.R_mono HO267.out (fun _ hk => trivial)))⟩, ⟨pB⟩⟩
       · rw [if_neg c7] at H
         exact absurd H (by simp)
     · rw [if_neg c5] at H
       exact absurd H (by simp)
   · rw [if_neg c4] at H
     have c4b0 : decide (x4_1 < (l0.length : Int)) = false := decide_eq_false c4
     clear c4
     obtain ⟨t268, A110, H⟩ := bO H
     replace H : (some t268) = some r := H
     have A11 := Aside0.mk A110; clear A110
     obtain rfl := Option.some.inj H
     obtain ⟨Ao12, co12, eo12⟩ := Kd.R_slice HO_3.out
     subst eo12
     go_wp2_with (first | ((with_reducible refine gate_callee (f := 103) rfl ?_); refine goesL_ (some 20) rfl rfl Try.func103 (by kernel_rfl) rfl #[.slice Ao12 x3_1.length co12] rfl pA ?_; (with_reducible refine (spec_l1Sum.calls k1 _ _ x3_1 t268 _ ?side1 ?side2 A11.out).mono ?_); (case side1 => exact pC (Kd.R_reads' HO_3.out).2.2); (case side2 => exact (Kd.R_reads' HO_3.out).2.1); rintro e w' ⟨rfl, ⟨nd, rfl⟩⟩; refine ⟨_, rfl, ?_⟩))
     go_ret
     exact ⟨pE, pB⟩
def spec_l4Join.f (k : Nat) (a0 : Int) (a1 : Int) : Option (Int) := (spec_l1SumInts.f k (([a0, a1] : List Int))).bind fun t272 => (some t272)
theorem spec_l4Join.mono : ∀ a0 a1 k, LeO (spec_l4Join.f k a0 a1) (spec_l4Join.f (k + 1) a0 a1) := by
 intro a0 a1 k
 unfold spec_l4Join.f
 repeat' with_reducible first | exact spec_l1SumInts.mono _ _ | exact LeO.refl _ | exact LeO.none _ | refine LeO.ite ?_ ?_ | refine LeO.bind ?_ (fun _ => ?_)
theorem spec_l4Join.calls (k : Nat) (a0 : Int) (a1 : Int) (r : Int) (w : World) (h : spec_l4Join.f k a0 a1 = some r) :
 Calls Try.prog 154 #[.int .i64 a0, .int .i64 a1] w fun e w' => e = .returned (.int .i64 r) ∧ Below w.heap.size w w' := by
 have HB := Aside0.mk (Below.refl w.heap.size w)
 have H : ((spec_l1SumInts.f k (([a0, a1] : List Int))).bind fun t272 => (some t272)) = some r := h
 clear h
 obtain ⟨y269, hy269⟩ : ∃ y_ : List Int, y_ = (([a0, a1] : List Int)) := ⟨_, rfl⟩
 replace H : ((spec_l1SumInts.f k y269).bind fun t272 => (some t272)) = some r := by first | (rw [hy269]; with_reducible exact H) | (have H2_ := (Option.bind_some _ _).symm.trans H; rw [hy269]; with_reducible exact H2_) | (have H2_ := (Option.bind_some _ _).symm.trans H; with_reducible exact H2_) | with_reducible exact H | (rw [hy269]; exact H) | exact H
 have Ny269 := Aside0.mk hy269; clear hy269
 obtain ⟨t272, A30, H⟩ := bO H
 replace H : (some t272) = some r := H
 have A3 := Aside0.mk A30; clear A30
 obtain rfl := Option.some.inj H
 go_enter Try.func154, Try.ntmps154
 go_wp2_with (first | ((with_reducible refine gate_dst (N := 7) rfl ?_); refine Kd.R_lit (Kd.int .i64) _ 2 ?hg (N := 7) ?hd (xs := ([a0, a1] : List Int)) (inner := [.int .i64 a0, .int .i64 a1]) (ok := fun _ => True) (okp := fun _ => True) ?hr ?hp (fun _ hk => hk) trivial (Below.refl _ _) (Nat.le_refl _) (by simp) ?_; (case hd => rfl); (case hg => rfl); (case hr => first | (go_simp; done) | (go_simp; rfl)); (case hp => exact (Reps.one (show Kd.M (Kd.int .i64) _ _ _ a0 [.int .i64 a0] from rfl) (Reps.one (show Kd.M (Kd.int .i64) _ _ _ a1 [.int .i64 a1] from rfl) (Reps.none _ _)))); intro v270 w4 ho5 hb hg_ hnew_; clear hg_ hnew_; (first | rw [← Ny269.out] at ho5 | (simp only [Int.reduceToNat] at ho5; rw [← Ny269.out] at ho5)); have n_ := t2 (Kd.R_lower ho5 (below_size pB)) (below_step pB hb); clear HB; obtain ⟨HO271, HB⟩ := n_; clear hb ho5; obtain ⟨Ao6, co6, eo6⟩ := Kd.R_slice HO271.out; subst eo6) | ((with_reducible refine gate_callee (f := 160) rfl ?_); refine goesL_ (some 8) rfl rfl Try.func160 (by kernel_rfl) rfl #[.slice Ao6 y269.length co6] rfl pA ?_; (with_reducible refine (spec_l1SumInts.calls k _ _ y269 t272 _ ?side1 ?side2 A3.out).mono ?_); (case side1 => exact pC (Kd.R_reads' HO271.out).2.2); (case side2 => exact (Kd.R_reads' HO271.out).2.1); rintro e w7 ⟨rfl, hb⟩; refine ⟨_, rfl, ?_⟩; have n_ := t2 (Kd.R_below (pR HO271) hb) (below_step pB hb); clear HO271 HB; obtain ⟨HO271, HB⟩ := n_; (try clear hb)))
 go_ret
 exact ⟨pE, pB⟩
def spec_l4Mate.f (l0 : List Int) (a1 : Int) : Option (Int) := if (Int.tmod a1 2) = 1 then (if (wrap64 (a1 - 1)) ≥ (l0.length : Int) then (if 0 ≤ a1 then (if a1 < (l0.length : Int) then (some (rd l0 a1)) else (none)) else (none)) else (if 0 ≤ (wrap64 (a1 - 1)) then (if (wrap64 (a1 - 1)) < (l0.length : Int) then (some (rd l0 (wrap64 (a1 - 1)))) else (none)) else (none))) else (if (wrap64 (a1 + 1)) ≥ (l0.length : Int) then (if 0 ≤ a1 then (if a1 < (l0.length : Int) then (some (rd l0 a1)) else (none)) else (none)) else (if 0 ≤ (wrap64 (a1 + 1)) then (if (wrap64 (a1 + 1)) < (l0.length : Int) then (some (rd l0 (wrap64 (a1 + 1)))) else (none)) else (none)))
theorem spec_l4Mate.calls (A0 : Option Addr) (c0 : Nat) (l0 : List Int) (a1 : Int) (r : Int) (w : World) (hr0 : Kd.C (Kd.int .i64) w A0 l0.length l0) (hc0 : l0.length ≤ c0) (h : spec_l4Mate.f l0 a1 = some r) :
 Calls Try.prog 155 #[.slice A0 l0.length c0, .int .i64 a1] w fun e w' => e = .returned (.int .i64 r) ∧ Drawn0 w w' := by
 have HR0 := Aside0.mk hr0; have HC0 := Aside0.mk hc0; clear hr0 hc0
 have H : (if (Int.tmod a1 2) = 1 then (if (wrap64 (a1 - 1)) ≥ (l0.length : Int) then (if 0 ≤ a1 then (if a1 < (l0.length : Int) then (some (rd l0 a1)) else (none)) else (none)) else (if 0 ≤ (wrap64 (a1 - 1)) then (if (wrap64 (a1 - 1)) < (l0.length : Int) then (some (rd l0 (wrap64 (a1 - 1)))) else (none)) else (none))) else (if (wrap64 (a1 + 1)) ≥ (l0.length : Int) then (if 0 ≤ a1 then (if a1 < (l0.length : Int) then (some (rd l0 a1)) else (none)) else (none)) else (if 0 ≤ (wrap64 (a1 + 1)) then (if (wrap64 (a1 + 1)) < (l0.length : Int) then (some (rd l0 (wrap64 (a1 + 1)))) else (none)) else (none)))) = some r := h
 clear h
 by_cases c3 : (Int.tmod a1 2) = 1
 · rw [if_pos c3] at H
   have c3b0 : ((Int.tmod a1 2) == 1) = true := beq_iff_eq.mpr c3
   have c3b1 : ((Int.tmod a1 2) != 1) = false := bne_eq_false_iff_eq.mpr c3
   clear c3
   by_cases c4 : (wrap64 (a1 - 1)) ≥ (l0.length : Int)
   · rw [if_pos c4] at H
     have c4b0 : decide ((l0.length : Int) ≤ (wrap64 (a1 - 1))) = true := decide_eq_true c4
     clear c4
     by_cases c5 : 0 ≤ a1
     · rw [if_pos c5] at H
       have c5b0 : decide (0 ≤ a1) = true := decide_eq_true c5
       clear c5
       by_cases c6 : a1 < (l0.length : Int)
       · rw [if_pos c6] at H
         have c6b0 : decide (a1 < (l0.length : Int)) = true := decide_eq_true c6
         clear c6
         obtain rfl := Option.some.inj H
         have p273 : 0 ≤ (a1 : Int) := pD
         have q273 : a1 < (l0.length : Int) := pD
         obtain ⟨ad273, e273, hx273_0⟩ := Kd.at_int HR0.out a1 p273 q273
         cases e273; replace p273 := eq_true p273; replace q273 := eq_true q273
         go_enter Try.func155, Try.ntmps155
         go_wp2
         go_ret
         exact ⟨by first | rfl | (simp; done) | (simp [*]; done), pW⟩
       · rw [if_neg c6] at H
         exact absurd H (by simp)
     · rw [if_neg c5] at H
       exact absurd H (by simp)
   · rw [if_neg c4] at H
     have c4b0 : decide ((l0.length : Int) ≤ (wrap64 (a1 - 1))) = false := decide_eq_false c4
     clear c4
     obtain ⟨ji7, hji7⟩ : ∃ j_ : Int, (wrap64 (a1 - 1)) = j_ := ⟨_, rfl⟩
     replace H : (if 0 ≤ (ji7) then (if (ji7) < (l0.length : Int) then (some (rd l0 (ji7))) else (none)) else (none)) = some r := by first | (rw [hji7] at H; exact H) | (simp only [hji7] at H ⊢; exact H)
     (try rw [hji7] at c4b0)
     have hji7w : (IntKind.i64.wrap (a1 - 1)) = ji7 := (i64_w _).trans hji7
     by_cases c8 : 0 ≤ (ji7)
     · rw [if_pos c8] at H
       have c8b0 : decide (0 ≤ (ji7)) = true := decide_eq_true c8
       clear c8
       by_cases c9 : (ji7) < (l0.length : Int)
       · rw [if_pos c9] at H
         have c9b0 : decide ((ji7) < (l0.length : Int)) = true := decide_eq_true c9
         clear c9
         obtain rfl := Option.some.inj H
         have p274 : 0 ≤ ((ji7) : Int) := pD
         have q274 : (ji7) < (l0.length : Int) := pD
         obtain ⟨ad274, e274, hx274_0⟩ := Kd.at_int HR0.out (ji7) p274 q274
         cases e274; replace p274 := eq_true p274; replace q274 := eq_true q274
         go_enter Try.func155, Try.ntmps155
         go_wp2
         go_ret
         exact ⟨by first | rfl | (simp; done) | (simp only [← hji7] <;> (first | rfl | simp)) | (simp [*]; done), pW⟩
       · rw [if_neg c9] at H
         exact absurd H (by simp)
     · rw [if_neg c8] at H
       exact absurd H (by simp)
 · rw [if_neg c3] at H
   have c3b0 : ((Int.tmod a1 2) == 1) = false := beq_eq_false_iff_ne.mpr c3
   have c3b1 : ((Int.tmod a1 2) != 1) = true := bne_iff_ne.mpr c3
   by_cases c10 : (wrap64 (a1 + 1)) ≥ (l0.length : Int)
   · rw [if_pos c10] at H
     have c10b0 : decide ((l0.length : Int) ≤ (wrap64 (a1 + 1))) = true := decide_eq_true c10
     clear c10
     by_cases c11 : 0 ≤ a1
     · rw [if_pos c11] at H
       have c11b0 : decide (0 ≤ a1) = true := decide_eq_true c11
       clear c11
       by_cases c12 : a1 < (l0.length : Int)
       · rw [if_pos c12] at H
         have c12b0 : decide (a1 < (l0.length : Int)) = true := decide_eq_true c12
         clear c12
         obtain rfl := Option.some.inj H
         have p275 : 0 ≤ (a1 : Int) := pD
         have q275 : a1 < (l0.length : Int) := pD
         obtain ⟨ad275, e275, hx275_0⟩ := Kd.at_int HR0.out a1 p275 q275
         cases e275; replace p275 := eq_true p275; replace q275 := eq_true q275
         go_enter Try.func155, Try.ntmps155
         go_wp2
         go_ret
         exact ⟨by first | rfl | (simp; done) | (simp [*]; done), pW⟩
       · rw [if_neg c12] at H
         exact absurd H (by simp)
     · rw [if_neg c11] at H
       exact absurd H (by simp)
   · rw [if_neg c10] at H
     have c10b0 : decide ((l0.length : Int) ≤ (wrap64 (a1 + 1))) = false := decide_eq_false c10
     clear c10
     obtain ⟨ji13, hji13⟩ : ∃ j_ : Int, (wrap64 (a1 + 1)) = j_ := ⟨_, rfl⟩
     replace H : (if 0 ≤ (ji13) then (if (ji13) < (l0.length : Int) then (some (rd l0 (ji13))) else (none)) else (none)) = some r := by first | (rw [hji13] at H; exact H) | (simp only [hji13] at H ⊢; exact H)
     (try rw [hji13] at c10b0)
     have hji13w : (IntKind.i64.wrap (a1 + 1)) = ji13 := (i64_w _).trans hji13
     by_cases c14 : 0 ≤ (ji13)
     · rw [if_pos c14] at H
       have c14b0 : decide (0 ≤ (ji13)) = true := decide_eq_true c14
       clear c14
       by_cases c15 : (ji13) < (l0.length : Int)
       · rw [if_pos c15] at H
         have c15b0 : decide ((ji13) < (l0.length : Int)) = true := decide_eq_true c15
         clear c15
         obtain rfl := Option.some.inj H
         have p276 : 0 ≤ ((ji13) : Int) := pD
         have q276 : (ji13) < (l0.length : Int) := pD
         obtain ⟨ad276, e276, hx276_0⟩ := Kd.at_int HR0.out (ji13) p276 q276
         cases e276; replace p276 := eq_true p276; replace q276 := eq_true q276
         go_enter Try.func155, Try.ntmps155
         go_wp2
         go_ret
         exact ⟨by first | rfl | (simp; done) | (simp only [← hji13] <;> (first | rfl | simp)) | (simp [*]; done), pW⟩
       · rw [if_neg c15] at H
         exact absurd H (by simp)
     · rw [if_neg c14] at H
       exact absurd H (by simp)
def spec_l4Above.l0 : Nat → List Int → List Int → Int → Option (List Int)
 | 0, _, _, _ => none
 | k + 1, x0, x3, x4 => if x4 < (x0.length : Int) then (if 0 ≤ x4 then ((spec_l4Mate.f x0 x4).bind fun t281 => ((spec_l4Join.f k (rd x0 x4) t281).bind fun t282 => (if x3.length < 17592186044416 then (spec_l4Above.l0 k x0 (x3 ++ [t282]) (wrap64 (x4 + 2))) else (none)))) else (none)) else (some x3)
def spec_l4Above.f (k : Nat) (l0 : List Int) : Option (List Int) := spec_l4Above.l0 k l0 (([] : List Int)) 0
theorem spec_l4Above.mono_l : ∀ k, (∀ y0 y1 y2, LeO (spec_l4Above.l0 k y0 y1 y2) (spec_l4Above.l0 (k + 1) y0 y1 y2))
 | 0 => fun _ _ _ r h => by simp [spec_l4Above.l0] at h
 | k + 1 => by
  have ih0 := spec_l4Above.mono_l k
  · intro y0 y1 y2
    unfold spec_l4Above.l0
    repeat' with_reducible first | exact ih0 _ _ _ | exact spec_l4Join.mono _ _ _ | exact LeO.refl _ | exact LeO.none _ | refine LeO.ite ?_ ?_ | refine LeO.bind ?_ (fun _ => ?_)
theorem spec_l4Above.mono : ∀ a0 k, LeO (spec_l4Above.f k a0) (spec_l4Above.f (k + 1) a0) := by
 intro a0 k
 have ih0 := spec_l4Above.mono_l k
 unfold spec_l4Above.f
 repeat' with_reducible first | exact ih0 _ _ _ | exact spec_l4Join.mono _ _ _ | exact LeO.refl _ | exact LeO.none _ | refine LeO.ite ?_ ?_ | refine LeO.bind ?_ (fun _ => ?_)
def spec_l4Above.T5 : Bool × List (List Nat × List Nat) := (true, [([], []), ([], []), ([], []), ([1, 2], [1, 2]), ([3], [3]), ([], []), ([], []), ([5, 6], [5, 6]), ([4, 7, 7], [4, 7]), ([8], [8]), ([0, 9, 8], [0, 9]), ([10, 10, 0, 1, 2, 3, 4, 5, 6, 7, 8, 9, 10], [0, 10])])
def spec_l4Above.B5 : List Nat := [0, 0, 0, 6, 14, 0, 0, 96, 254, 510, 1023, 2047]
theorem spec_l4Above.tab5 : rtab .any (opsOf Try.f136 5) = spec_l4Above.T5 := by kernel_rfl
theorem spec_l4Above.bits5 : waitsOk spec_l4Above.T5.2 spec_l4Above.B5 = true := by kernel_rfl
theorem spec_l4Above.calls (k : Nat) (A0 : Option Addr) (c0 : Nat) (l0 : List Int) (r : List Int) (w : World) (hr0 : Kd.C (Kd.int .i64) w A0 l0.length l0) (hc0 : l0.length ≤ c0) (h : spec_l4Above.f k l0 = some r) :
 Calls Try.prog 136 #[.slice A0 l0.length c0] w fun e w' => ∃ v0_ : Value, e = .returned (v0_) ∧ Kd.R (Kd.int .i64) 2 w' w.heap.size (fun _ => True) v0_ r ∧ Below w.heap.size w w' := by
 have HR0 := Aside0.mk hr0; have HC0 := Aside0.mk hc0; clear hr0 hc0
 have HB := Aside0.mk (Below.refl w.heap.size w)
 have H : (spec_l4Above.l0 k l0 (([] : List Int)) 0) = some r := h
 clear h
 obtain ⟨y277, hy277⟩ : ∃ y_ : List Int, y_ = (([] : List Int)) := ⟨_, rfl⟩
 replace H : (spec_l4Above.l0 k l0 y277 0) = some r := by first | (rw [hy277]; with_reducible exact H) | (have H2_ := (Option.bind_some _ _).symm.trans H; rw [hy277]; with_reducible exact H2_) | (have H2_ := (Option.bind_some _ _).symm.trans H; with_reducible exact H2_) | with_reducible exact H | (rw [hy277]; exact H) | exact H
 have Ny277 := Aside0.mk hy277; clear hy277
 have H' := Aside0.mk H
 clear H
 go_enter Try.func136, Try.ntmps136
 go_wp2_with (first | ((with_reducible refine gate_dst (N := 5) rfl ?_); refine Kd.R_lit (Kd.int .i64) _ 2 ?hg (N := 5) ?hd (xs := ([] : List Int)) (inner := []) (ok := fun _ => True) (okp := fun _ => True) ?hr ?hp (fun _ hk => hk) trivial (Below.refl _ _) (Nat.le_refl _) (by simp) ?_; (case hd => rfl); (case hg => rfl); (case hr => first | (go_simp; done) | (go_simp; rfl)); (case hp => exact (Reps.none _ _)); intro v278 w2 ho3 hb hg_ hnew_; clear hg_ hnew_; (first | rw [← Ny277.out] at ho3 | (simp only [Int.reduceToNat] at ho3; rw [← Ny277.out] at ho3)); have n_ := t2 (Kd.R_lower ho3 (below_size pB)) (below_step pB hb); clear HB; obtain ⟨HO279, HB⟩ := n_; clear hb ho3))
 go_loopg [3, 4] k (fun kq v3 v4 w' => ∃ (x3_1 : List Int) (x4_1 : Int), v4 = .int .i64 x4_1 ∧ Aside0 (spec_l4Above.l0 kq l0 x3_1 x4_1 = some r) ∧ Aside0 (kq ≤ k) ∧ Aside0 (Kd.R (Kd.int .i64) 2 w' w.heap.size (fun _ => True) v3 x3_1) ∧ Aside0 (Below w.heap.size w w'))
 case atStart => exact ⟨(y277), (0), pF, H', ⟨Nat.le_refl _⟩, ⟨(pR HO279)⟩, ⟨pB⟩⟩
 case round =>
  clear H'
  (try clear c1); (try clear p2)
  obtain ⟨x3_1, x4_1, rfl, HA, HK1, HO_3, HB⟩ := hrel
  cases gk with
  | zero => exact absurd HA.out (by simp [spec_l4Above.l0])
  | succ k1 =>
   have H := HA.out
   clear HA
   simp only [spec_l4Above.l0] at H
   by_cases c4 : x4_1 < (l0.length : Int)
   · rw [if_pos c4] at H
     have c4b0 : decide (x4_1 < (l0.length : Int)) = true := decide_eq_true c4
     clear c4
     by_cases c5 : 0 ≤ x4_1
     · rw [if_pos c5] at H
       have c5b0 : decide (0 ≤ x4_1) = true := decide_eq_true c5
       clear c5
       obtain ⟨t281, A60, H⟩ := bO H
       replace H : ((spec_l4Join.f k1 (rd l0 x4_1) t281).bind fun t282 => (if x3_1.length < 17592186044416 then (spec_l4Above.l0 k1 l0 (x3_1 ++ [t282]) (wrap64 (x4_1 + 2))) else (none))) = some r := H
       have A6 := Aside0.mk A60; clear A60
       obtain ⟨t282, A70, H⟩ := bO H
       replace H : (if x3_1.length < 17592186044416 then (spec_l4Above.l0 k1 l0 (x3_1 ++ [t282]) (wrap64 (x4_1 + 2))) else (none)) = some r := H
       have A7 := Aside0.mk A70; clear A70
       by_cases c8 : x3_1.length < 17592186044416
       · rw [if_pos c8] at H
         have LMc8 := Aside0.mk c8; clear c8
         obtain ⟨y283, hy283⟩ : ∃ y_ : List Int, y_ = (x3_1 ++ [t282]) := ⟨_, rfl⟩
         replace H : (spec_l4Above.l0 k1 l0 y283 (wrap64 (x4_1 + 2))) = some r := by first | (rw [hy283]; with_reducible exact H) | (have H2_ := (Option.bind_some _ _).symm.trans H; rw [hy283]; with_reducible exact H2_) | (have H2_ := (Option.bind_some _ _).symm.trans H; with_reducible exact H2_) | with_reducible exact H | (rw [hy283]; exact H) | exact H
         have Ny283 := Aside0.mk hy283; clear hy283
         have H' := Aside0.mk H
         clear H
         try go_wp2
         have n_ := t2 (Kd.R_drew HO_3.out) (below_drew1 HB.out)
         clear HO_3 HB; obtain ⟨HO_3, HB⟩ := n_
         have p280 : 0 ≤ (x4_1 : Int) := pD
         have q280 : x4_1 < (l0.length : Int) := pD
         obtain ⟨ad280, e280, hx280_0⟩ := Kd.at_int HR0.out x4_1 p280 q280
         have hw280_0 := hx280_0
         cases e280; replace hx280_0 := cb HB hx280_0; replace p280 := eq_true p280; replace q280 := eq_true q280
         refine start_ (n := 12) (S := fun w' => w'.cell? (ad280.add (x4_1).toNat) = some (.int .i64 (rd l0 x4_1))) (ds := []) #[false, false, false, false, false, false, false, false, false, false, false, false] (by kernel_rfl) rfl rfl ((cb HB hw280_0)) (fun hHeld => ?_); refine with_tabW spec_l4Above.tab5 spec_l4Above.bits5 (fun HT_ HW_ => ?_)
         generalize wr.drew = w9 at HO_3 HB hx280_0 hHeld ⊢
         refine rP 0 (some 12) #[true, false, false, false, false, false, false, false, false, false, false, false] (any_of HT_.out (by kernel_rfl)) ?_
         refine rP 1 (some 13) #[true, true, false, false, false, false, false, false, false, false, false, false] (any_of HT_.out (by kernel_rfl)) ?_
         refine rP 2 (some 14) #[true, true, true, false, false, false, false, false, false, false, false, false] (any_of HT_.out (by kernel_rfl)) ?_
         refine rP 3 (some 15) #[true, true, true, true, false, false, false, false, false, false, false, false] (any_of HT_.out (by kernel_rfl)) ?_
         refine rP 5 (some 17) #[true, true, true, true, false, true, false, false, false, false, false, false] (any_of HT_.out (by kernel_rfl)) ?_
         refine rP 6 (some 18) #[true, true, true, true, false, true, true, false, false, false, false, false] (any_of HT_.out (by kernel_rfl)) ?_
         refine rT 4 (some 16) #[true, true, true, true, true, true, true, false, false, false, false, false] (take_ofW HT_.out HW_.out (by kernel_rfl)) hHeld ?_
         refine one_ (i := 7) (N := some 19) #[true, true, true, true, true, true, true, true, false, false, false, false] rfl rfl (one_of HT_.out (by kernel_rfl)) (by decide) (fun K hK => ?_)
         refine goes_ Try.func155 (by kernel_rfl) rfl #[.slice (some ad280) l0.length c0, .int .i64 x4_1] (by rfl) rfl rfl pA ?_
         with_reducible refine (spec_l4Mate.calls _ _ l0 x4_1 t281 _ ?side1 ?side2 A6.out).mono ?_
         (case side1 => exact pC (Kd.C_below HR0.out HB.out))
         (case side2 => exact HC0.out)
         rintro e w' ⟨rfl, ⟨nd, rfl⟩⟩
         refine ⟨_, rfl, ?_⟩
         refine hK.out _ _ ((cb HB hw280_0)) (fun hHeld => ?_)
         clear hK K
         refine rN ?_
         refine one_ (i := 8) (N := some 20) #[true, true, true, true, true, true, true, true, true, false, false, false] rfl rfl (one_of HT_.out (by kernel_rfl)) (by decide) (fun K hK => ?_)
         refine goes_ Try.func154 (by kernel_rfl) rfl #[.int .i64 (rd l0 x4_1), .int .i64 t281] (by rfl) rfl rfl pA ?_
         with_reducible refine (spec_l4Join.calls k1 (rd l0 x4_1) t281 t282 _ A7.out).mono ?_
         rintro e w10 ⟨rfl, hb⟩
         refine ⟨_, rfl, ?_⟩
         have n_ := t2 (Kd.R_below (pR HO_3) hb) (below_step pB hb)
         clear HO_3 HB; obtain ⟨HO_3, HB⟩ := n_; (try clear hb); (try clear hb2); (try clear hk); (try clear hi)
         refine hK.out _ _ ((cb HB hw280_0)) (fun hHeld => ?_)
         clear hK K
         refine rN ?_
         refine one_ (i := 9) (N := some 21) #[true, true, true, true, true, true, true, true, true, true, false, false] rfl rfl (one_of HT_.out (by kernel_rfl)) (by decide) (fun K hK => ?_)
         refine value_ (w1 := ?_) (v := ?_) (by rfl) rfl ?_ ?_
         rotate_left 2
         · go_simp
           constructor
           · rfl
           · rfl
         refine hK.out _ _ ((World.cell?_alloc_lt _ _ _ (World.block_lt_of_cell? _ _ ((cb HB hw280_0)))).trans ((cb HB hw280_0))) (fun hHeld => ?_)
         clear hK K
         refine rN ?_
         refine one_ (i := 10) (N := some 22) #[true, true, true, true, true, true, true, true, true, true, true, false] rfl rfl (one_of HT_.out (by kernel_rfl)) (by decide) (fun K hK => ?_)
         refine Kd.R_append_step (Kd.int .i64) (w0 := w) w.heap.size (by rfl) (.tmp 12) (.tmp 21) 32 2 (.int .i64 0) 8 rfl Try.underlying32 info2 rfl (by decide) (by omega) u3 x3_1 t282 [.int .i64 t282] (fun _ => True) (fun _ => False) rfl rfl ?aP (fun _ hk => hk.elim) ?aF ?aO ?aB ?aS ?aL ?_
         (case aP => exact rfl)
         (case aB => exact pB)
         (case aF => exact (fun _ _ => trivial))
         (case aO => exact (pR HO_3))
         (case aS => exact (below_size pB))
         (case aL => have := LMc8.out; omega)
         intro v284 w11 ho hb hg hat
         rw [← Ny283.out] at ho
         have n_ := t2 (hb) (ho)
         clear HB HO_3; obtain ⟨HB, HO285⟩ := n_; clear ho hb hg hat
         refine hK.out _ _ ((cb HB hw280_0)) (fun hHeld => ?_)
         clear hK K
         refine rN ?_
         refine rP 11 (some 3) #[true, true, true, true, true, true, true, true, true, true, true, true] (any_of HT_.out (by kernel_rfl)) ?_
         refine done_ (done_of HT_.out (by kernel_rfl)) ?_
         try go_wp2
         go_roundg k1
         case measure => have := HK1.out; omega
         case rel => exact ⟨(y283), (wrap64 (x4_1 + 2)), pF, H', ⟨by have := HK1.out; omega⟩, ⟨(pR HO285)⟩, ⟨pB⟩⟩
       · rw [if_neg c8] at H
         exact absurd H (by simp)
     · rw [if_neg c5] at H
       exact absurd H (by simp)
   · rw [if_neg c4] at H
     have c4b0 : decide (x4_1 < (l0.length : Int)) = false := decide_eq_false c4
     clear c4
     obtain rfl := Option.some.inj H
     go_wp2
     go_ret
     exact ⟨_, pE, (pR HO_3), pB⟩
mutual
def spec_l4Twin.l0 : Nat → List Int → Option (Bool)
 | 0, _ => none
 | k + 1, x3 => if (x3.length : Int) > 1 then (spec_l4Twin.l1 k x3 0) else (some false)
def spec_l4Twin.l1 : Nat → List Int → Int → Option (Bool)
 | 0, _, _ => none
 | k + 1, x3, x4 => if (wrap64 (x4 + 1)) < (x3.length : Int) then (if 0 ≤ x4 then (if x4 < (x3.length : Int) then (if 0 ≤ (wrap64 (x4 + 1)) then (if (rd x3 x4) = (rd x3 (wrap64 (x4 + 1))) then (some true) else (spec_l4Twin.l1 k x3 (wrap64 (x4 + 2)))) else (none)) else (none)) else (none)) else ((spec_l4Above.f k x3).bind fun t288 => (spec_l4Twin.l0 k t288))
end
def spec_l4Twin.f (k : Nat) (l0 : List Int) : Option (Bool) := spec_l4Twin.l0 k l0
theorem spec_l4Twin.mono_l : ∀ k, (∀ y0, LeO (spec_l4Twin.l0 k y0) (spec_l4Twin.l0 (k + 1) y0)) ∧ (∀ y0 y1, LeO (spec_l4Twin.l1 k y0 y1) (spec_l4Twin.l1 (k + 1) y0 y1))
 | 0 => ⟨fun _ r h => by simp [spec_l4Twin.l0] at h, fun _ _ r h => by simp [spec_l4Twin.l1] at h⟩
 | k + 1 => by
  obtain ⟨ih0, ih1⟩ := spec_l4Twin.mono_l k
  refine ⟨?_, ?_⟩
  · intro y0
    unfold spec_l4Twin.l0
    repeat' with_reducible first | exact ih0 _ | exact ih1 _ _ | exact spec_l4Above.mono _ _ | exact LeO.refl _ | exact LeO.none _ | refine LeO.ite ?_ ?_ | refine LeO.bind ?_ (fun _ => ?_)
  · intro y0 y1
    unfold spec_l4Twin.l1
    repeat' with_reducible first | exact ih0 _ | exact ih1 _ _ | exact spec_l4Above.mono _ _ | exact LeO.refl _ | exact LeO.none _ | refine LeO.ite ?_ ?_ | refine LeO.bind ?_ (fun _ => ?_)
theorem spec_l4Twin.mono : ∀ a0 k, LeO (spec_l4Twin.f k a0) (spec_l4Twin.f (k + 1) a0) := by
 intro a0 k
 obtain ⟨ih0, ih1⟩ := spec_l4Twin.mono_l k
 unfold spec_l4Twin.f
 repeat' with_reducible first | exact ih0 _ | exact ih1 _ _ | exact spec_l4Above.mono _ _ | exact LeO.refl _ | exact LeO.none _ | refine LeO.ite ?_ ?_ | refine LeO.bind ?_ (fun _ => ?_)
theorem spec_l4Twin.calls (k : Nat) (P0_ : Nat → Prop) (A0 : Option Addr) (c0 : Nat) (l0 : List Int) (r : Bool) (w : World) (hs0 : Kd.V (Kd.int .i64) 2 w w.heap.size (fun k_ => P0_ k_) (.slice A0 l0.length c0) l0) (h : spec_l4Twin.f k l0 = some r) :
 Calls Try.prog 133 #[.slice A0 l0.length c0] w fun e w' => e = .returned (.bool r) ∧ Below w.heap.size w w' := by
 have HO0 := Aside0.mk (show Kd.V (Kd.int .i64) 2 w w.heap.size (fun k_ => (P0_ k_ ∨ w.heap.size ≤ k_)) (.slice A0 l0.length c0) l0 from Kd.V_mono hs0 (fun k_ hk => .inl hk))
 have HB := Aside0.mk (Below.refl w.heap.size w)
 have H : (spec_l4Twin.l0 k l0) = some r := h
 clear h
 have H' := Aside0.mk H
 clear H
 go_enter Try.func133, Try.ntmps133
 go_wp2
 repeat (go_quiet (fail); try go_wp2)
 go_loopg [3] k (fun kq v3 w' => ∃ (x3_1 : List Int), Aside0 (spec_l4Twin.l0 kq x3_1 = some r) ∧ Aside0 (kq ≤ k) ∧ Aside0 (Kd.V (Kd.int .i64) 2 w' w.heap.size (fun k_ => (P0_ k_ ∨ w.heap.size ≤ k_)) v3 x3_1) ∧ Aside0 (Below w.heap.size w w'))
 case atStart => exact ⟨(l0), H', ⟨Nat.le_refl _⟩, ⟨by (with_reducible repeat (first | apply Kd.V_alloc | apply Kd.V_drewN | apply Kd.V_drew)); exact HO0.out⟩, ⟨pB⟩⟩
 case round =>
  clear H'
  (try clear c1)
  obtain ⟨x3_1, HA, HK1, HO_3, HB⟩ := hrel
  cases gk with
  | zero => exact absurd HA.out (by simp [spec_l4Twin.l0])
  | succ k1 =>
   have H := HA.out
   clear HA
   simp only [spec_l4Twin.l0] at H
   by_cases c2 : (x3_1.length : Int) > 1
   · rw [if_pos c2] at H
     have c2b0 : decide (1 < (x3_1.length : Int)) = true := decide_eq_true c2
     have c2b1 : decide (1 < x3_1.length) = true := decide_eq_true (by omega)
     clear c2
     have H' := Aside0.mk H
     clear H
     obtain ⟨Ao3, co3, eo3⟩ := Kd.V_slice HO_3.out
     subst eo3
     go_wp2
     repeat (go_quiet (fail); try go_wp2)
     go_loopg [4] k1 (fun kq v4 w' => ∃ (x4_2 : Int), v4 = .int .i64 x4_2 ∧ Aside0 (spec_l4Twin.l1 kq x3_1 x4_2 = some r) ∧ Aside0 (kq ≤ k1) ∧ Aside0 (Kd.V (Kd.int .i64) 2 w' w.heap.size (fun k_ => (P0_ k_ ∨ w.heap.size ≤ k_)) (.slice Ao3 x3_1.length co3) x3_1) ∧ Aside0 (Below w.heap.size w w'))
     case atStart => exact ⟨(0), pF, H', ⟨Nat.le_refl _⟩, ⟨by (with_reducible repeat (first | apply Kd.V_alloc | apply Kd.V_drewN | apply Kd.V_drew)); exact HO_3.out⟩, ⟨pB⟩⟩
     case round =>
      clear H'
      (try clear c1); (try clear c2); (try clear c2b0); (try clear c2b1); (try clear p2)
      obtain ⟨x4_2, rfl, HA, HK2, HO_3, HB⟩ := hrel
      cases gk with
      | zero => exact absurd HA.out (by simp [spec_l4Twin.l1])
      | succ k2 =>
       have H := HA.out
       clear HA
       simp only [spec_l4Twin.l1] at H
       by_cases c4 : (wrap64 (x4_2 + 1)) < (x3_1.length : Int)
       · rw [if_pos c4] at H
         have c4b0 : decide ((wrap64 (x4_2 + 1)) < (x3_1.length : Int)) = true := decide_eq_true c4
         clear c4
         by_cases c5 : 0 ≤ x4_2
         · rw [if_pos c5] at H
           have c5b0 : decide (0 ≤ x4_2) = true := decide_eq_true c5
           clear c5
           by_cases c6 : x4_2 < (x3_1.length : Int)
           · rw [if_pos c6] at H
             have c6b0 : decide (x4_2 < (x3_1.length : Int)) = true := decide_eq_true c6
             clear c6
             obtain ⟨ji7, hji7⟩ : ∃ j_ : Int, (wrap64 (x4_2 + 1)) = j_ := ⟨_, rfl⟩
             replace H : (if 0 ≤ (ji7) then (if (rd x3_1 x4_2) = (rd x3_1 (ji7)) then (some true) else (spec_l4Twin.l1 k2 x3_1 (wrap64 (x4_2 + 2)))) else (none)) = some r := by first | (rw [hji7] at H; exact H) | (simp only [hji7] at H ⊢; exact H)
             (try rw [hji7] at c4b0)
             have hji7w : (IntKind.i64.wrap (x4_2 + 1)) = ji7 := (i64_w _).trans hji7
             by_cases c8 : 0 ≤ (ji7)
             · rw [if_pos c8] at H
               have c8b0 : decide (0 ≤ (ji7)) = true := decide_eq_true c8
               clear c8
               by_cases c9 : (rd x3_1 x4_2) = (rd x3_1 (ji7))
               · rw [if_pos c9] at H
                 have c9b0 : ((rd x3_1 x4_2) == (rd x3_1 (ji7))) = true := beq_iff_eq.mpr c9
                 have c9b1 : ((rd x3_1 x4_2) != (rd x3_1 (ji7))) = false := bne_eq_false_iff_eq.mpr c9
                 clear c9
                 obtain rfl := Option.some.inj H
                 have p286 : 0 ≤ (x4_2 : Int) := pD
                 have q286 : x4_2 < (x3_1.length : Int) := pD
                 obtain ⟨ad286, e286, hx286_0⟩ := Kd.at_int (Kd.V_reads' HO_3.out).2.2 x4_2 p286 q286
                 cases e286; replace p286 := eq_true p286; replace q286 := eq_true q286
                 have p287 : 0 ≤ ((ji7) : Int) := pD
                 have q287 : (ji7) < (x3_1.length : Int) := pD
                 obtain ⟨ad287, e287, hx287_0⟩ := Kd.at_int (Kd.V_reads' HO_3.out).2.2 (ji7) p287 q287
                 obtain rfl : ad286 = ad287 := (by injection e287)
                 replace p287 := eq_true p287; replace q287 := eq_true q287
                 go_wp2
                 repeat (go_quiet (fail); try go_wp2)
                 go_ret
                 exact ⟨by first | rfl | (simp [errW_none, errW_some] <;> rfl) | (simp only [← hji7]; first | rfl | (simp [errW_none, errW_some] <;> rfl)) | (simp [*, errW_none, errW_some] <;> rfl), pB⟩
               · rw [if_neg c9] at H
                 have c9b0 : ((rd x3_1 x4_2) == (rd x3_1 (ji7))) = false := beq_eq_false_iff_ne.mpr c9
                 have c9b1 : ((rd x3_1 x4_2) != (rd x3_1 (ji7))) = true := bne_iff_ne.mpr c9
                 have H' := Aside0.mk H
                 clear H
                 have p286 : 0 ≤ (x4_2 : Int) := pD
                 have q286 : x4_2 < (x3_1.length : Int) := pD
                 obtain ⟨ad286, e286, hx286_0⟩ := Kd.at_int (Kd.V_reads' HO_3.out).2.2 x4_2 p286 q286
                 cases e286; replace p286 := eq_true p286; replace q286 := eq_true q286
                 have p287 : 0 ≤ ((ji7) : Int) := pD
                 have q287 : (ji7) < (x3_1.length : Int) := pD
                 obtain ⟨ad287, e287, hx287_0⟩ := Kd.at_int (Kd.V_reads' HO_3.out).2.2 (ji7) p287 q287
                 obtain rfl : ad286 = ad287 := (by injection e287)
                 replace p287 := eq_true p287; replace q287 := eq_true q287
                 go_wp2
                 repeat (go_quiet (fail); try go_wp2)
                 go_roundg k2
                 case measure => have := HK1.out; have := HK2.out; omega
                 case rel => exact ⟨(wrap64 (x4_2 + 2)), pF, H', ⟨by have := HK1.out; have := HK2.out; omega⟩, ⟨by (with_reducible repeat (first | apply Kd.V_alloc | apply Kd.V_drewN | apply Kd.V_drew)); exact HO_3.out⟩, ⟨pB⟩⟩
             · rw [if_neg c8] at H
               exact absurd H (by simp)
           · rw [if_neg c6] at H
             exact absurd H (by simp)
         · rw [if_neg c5] at H
           exact absurd H (by simp)
       · rw [if_neg c4] at H
         have c4b0 : decide ((wrap64 (x4_2 + 1)) < (x3_1.length : Int)) = false := decide_eq_false c4
         clear c4
         obtain ⟨t288, A100, H⟩ := bO H
         replace H : (spec_l4Twin.l0 k2 t288) = some r := H
         have A10 := Aside0.mk A100; clear A100
         have H' := Aside0.mk H
         clear H
         go_wp2_with (first | (go_at_call 136; (with_reducible refine (spec_l4Above.calls k2 _ _ x3_1 t288 _ ?side1 ?side2 A10.out).mono ?_); (case side1 => exact pC (Kd.V_reads' HO_3.out).2.2); (case side2 => exact (Kd.V_reads' HO_3.out).2.1); rintro e w11 ⟨v289, rfl, ho0, hb⟩; have n_ := t3 (Kd.V_elder' (by (with_reducible repeat (first | apply Kd.V_alloc | apply Kd.V_drewN | apply Kd.V_drew)); exact HO_3.out) (Kd.R_base ho0) hb) (Kd.R_lower (Kd.R_newM (M := fun k_ => (w.heap.size ≤ k_)) ho0 (below_size pB) (fun k_ h_ => h_)) (below_size pB)) (below_step pB hb); clear HO_3 HB; obtain ⟨HO_3, HO290, HB⟩ := n_; (try clear hb); (try clear ho0)))
         repeat (go_quiet (first | (go_at_call 136; (with_reducible refine (spec_l4Above.calls k2 _ _ x3_1 t288 _ ?side1 ?side2 A10.out).mono ?_); (case side1 => exact pC (Kd.V_reads' HO_3.out).2.2); (case side2 => exact (Kd.V_reads' HO_3.out).2.1); rintro e w11 ⟨v289, rfl, ho0, hb⟩; have n_ := t3 (Kd.V_elder' (by (with_reducible repeat (first | apply Kd.V_alloc | apply Kd.V_drewN | apply Kd.V_drew)); exact HO_3.out) (Kd.R_base ho0) hb) (Kd.R_lower (Kd.R_newM (M := fun k_ => (w.heap.size ≤ k_)) ho0 (below_size pB) (fun k_ h_ => h_)) (below_size pB)) (below_step pB hb); clear HO_3 HB; obtain ⟨HO_3, HO290, HB⟩ := n_; (try clear hb); (try clear ho0))); try go_wp2_with (first | (go_at_call 136; (with_reducible refine (spec_l4Above.calls k2 _ _ x3_1 t288 _ ?side1 ?side2 A10.out).mono ?_); (case side1 => exact pC (Kd.V_reads' HO_3.out).2.2); (case side2 => exact (Kd.V_reads' HO_3.out).2.1); rintro e w11 ⟨v289, rfl, ho0, hb⟩; have n_ := t3 (Kd.V_elder' (by (with_reducible repeat (first | apply Kd.V_alloc | apply Kd.V_drewN | apply Kd.V_drew)); exact HO_3.out) (Kd.R_base ho0) hb) (Kd.R_lower (Kd.R_newM (M := fun k_ => (w.heap.size ≤ k_)) ho0 (below_size pB) (fun k_ h_ => h_)) (below_size pB)) (below_step pB hb); clear HO_3 HB; obtain ⟨HO_3, HO290, HB⟩ := n_; (try clear hb); (try clear ho0))))
         go_roundg k2
         case measure => have := HK1.out; have := HK2.out; omega
         case rel => exact ⟨(t288), H', ⟨by have := HK1.out; have := HK2.out; omega⟩, ⟨Kd.V_mono (Kd.R_V (pT (Kd.R_mono HO290.out (fun _ hk => hk.1)))) (fun k_ hk => by first | exact ⟨(.inr (hk.1)), hk.2⟩ | exact (.inr (hk)))⟩, ⟨pB⟩⟩
   · rw [if_neg c2] at H
     have c2b0 : decide (1 < (x3_1.length : Int)) = false := decide_eq_false c2
     have c2b1 : decide (1 < x3_1.length) = false := decide_eq_false (by omega)
     clear c2
     obtain rfl := Option.some.inj H
     obtain ⟨Ao12, co12, eo12⟩ := Kd.V_slice HO_3.out
     subst eo12
     go_wp2
     repeat (go_quiet (fail); try go_wp2)
     go_ret
     exact ⟨pE, pB⟩
end Go.Proofs.Ythjlbpgiaehjnaa.QFnExactBlockFault
