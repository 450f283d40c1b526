-- written by this session's program (wip/tools/myprint.py)
import Derived.Test.YthjlbpgiaehjnaaQFnExactBlockFaultx0
import Derived.Test.YthjlbpgiaehjnaaQFnExactBlockFaultx1
import Derived.Test.YthjlbpgiaehjnaaQFnExactBlockFaultx5
-- squeezed
namespace Go.Proofs.Ythjlbpgiaehjnaa.QFnExactBlockFault
open Go.RowKit Go.Proofs.YthjlbpgiaehjnaaW.PrintWords Go.Proofs.YthjlbpgiaehjnaaW.PrintLast Go.Proofs.YthjlbpgiaehjnaaW.PrintMore
attribute [local go_sem] max2_int min2_int max_two min_two max_three min_three max_four min_four   -- for this text's walks alone
set_option linter.unusedVariables false
set_option linter.unusedSimpArgs false
set_option maxHeartbeats 8000000
set_option maxRecDepth 100000
def spec_l3Pack.f (k : Nat) (a0_0 : Int) (l0_1 : List (S34)) (l0_2 : List (S86)) (a1 : Bool) : Option (List Int) := spec_l3Pack_in.f k [(⟨a0_0, l0_1, l0_2⟩ : S27)] a1
theorem spec_l3Pack.mono : ∀ (a0_0 : Int) (l0_1 : List (S34)) (l0_2 : List (S86)) (a1 : Bool) (k : Nat), LeO (spec_l3Pack.f k a0_0 l0_1 l0_2 a1) (spec_l3Pack.f (k + 1) a0_0 l0_1 l0_2 a1) := fun a0_0 l0_1 l0_2 a1 k => spec_l3Pack_in.mono [(⟨a0_0, l0_1, l0_2⟩ : S27)] a1 k
set_option maxHeartbeats 8000000 in
theorem spec_l3Pack.calls (k : Nat) (a0_0 : Int) (A0_1 : Option Addr) (c0_1 : Nat) (l0_1 : List (S34)) (A0_2 : Option Addr) (c0_2 : Nat) (l0_2 : List (S86)) (a1 : Bool) (r : List Int) (w : World) (hr0_1 : Kd.C k34 w A0_1 l0_1.length l0_1) (hc0_1 : l0_1.length ≤ c0_1) (hr0_2 : Kd.C k86 w A0_2 l0_2.length l0_2) (hc0_2 : l0_2.length ≤ c0_2) (h : spec_l3Pack.f k a0_0 l0_1 l0_2 a1 = some r) {pp0 : Addr} (hpp0_0 : w.cell? pp0 = some (.int .i64 a0_0)) (hpp0_1 : w.cell? ⟨pp0.block, pp0.off + 1, none⟩ = some (.slice A0_1 l0_1.length c0_1)) (hpp0_2 : w.cell? ⟨pp0.block, pp0.off + 2, none⟩ = some (.slice A0_2 l0_2.length c0_2)) :
 Calls Try.prog 71 #[.pointer (some pp0), .bool a1] w fun e w' => ∃ v0_ : Value, e = .returned (v0_) ∧ Kd.R (Kd.int .u8) 5 w' w.heap.size (fun _ => True) v0_ r ∧ Below w.heap.size w w' := by
 have o0 : Kd.C k27 w (some pp0) 1 [(⟨a0_0, l0_1, l0_2⟩ : S27)] := by
  refine ⟨rfl, by decide, fun _ => ⟨pp0, rfl, fun j p hj => ?_⟩⟩
  cases j with
  | succ j => simp at hj
  | zero =>
   obtain rfl : (⟨a0_0, l0_1, l0_2⟩ : S27) = p := by simpa using hj
   refine ⟨_, rfl, k27_mk w _ hc0_1 hr0_1 hc0_2 hr0_2, fun i u hu => ?_⟩
   match i, hu with
   | 0, hu => obtain rfl := Option.some.inj hu; exact hpp0_0
   | 1, hu => obtain rfl := Option.some.inj hu; exact hpp0_1
   | 2, hu => obtain rfl := Option.some.inj hu; exact hpp0_2
 exact spec_l3Pack_in.calls k (some pp0) 1 [(⟨a0_0, l0_1, l0_2⟩ : S27)] a1 r w o0 (Nat.le_refl 1) h
def spec_l1Sum.l0 : Nat → List Int → Int → Int → Option (Int)
 | 0, _, _, _ => none
 | k + 1, x0, x3, x4 => if x4 < (x0.length : Int) then (if 0 ≤ x4 then (spec_l1Sum.l0 k x0 (Int.tmod (wrap64 ((wrap64 ((wrap64 (x3 * 33)) + (wrap64 (rd x0 x4)))) + 1)) 2147483647) (wrap64 (x4 + 1))) else (none)) else (some x3)
def spec_l1Sum.f (k : Nat) (l0 : List Int) : Option (Int) := spec_l1Sum.l0 k l0 5381 0
theorem spec_l1Sum.mono_l : ∀ k, (∀ y0 y1 y2, LeO (spec_l1Sum.l0 k y0 y1 y2) (spec_l1Sum.l0 (k + 1) y0 y1 y2))
 | 0 => fun _ _ _ r h => by simp [spec_l1Sum.l0] at h
 | k + 1 => by
  have ih0 := spec_l1Sum.mono_l k
  · intro y0 y1 y2
    unfold spec_l1Sum.l0
    repeat' with_reducible first | exact ih0 _ _ _ | exact LeO.refl _ | exact LeO.none _ | refine LeO.ite ?_ ?_ | refine LeO.bind ?_ (fun _ => ?_)
theorem spec_l1Sum.mono : ∀ a0 k, LeO (spec_l1Sum.f k a0) (spec_l1Sum.f (k + 1) a0) := by
 intro a0 k
 have ih0 := spec_l1Sum.mono_l k
 unfold spec_l1Sum.f
 repeat' with_reducible first | exact ih0 _ _ _ | exact LeO.refl _ | exact LeO.none _ | refine LeO.ite ?_ ?_ | refine LeO.bind ?_ (fun _ => ?_)
theorem spec_l1Sum.calls (k : Nat) (A0 : Option Addr) (c0 : Nat) (l0 : List Int) (r : Int) (w : World) (hr0 : Kd.C (Kd.int .u8) w A0 l0.length l0) (hc0 : l0.length ≤ c0) (h : spec_l1Sum.f k l0 = some r) :
 Calls Try.prog 103 #[.slice A0 l0.length c0] w fun e w' => e = .returned (.int .i64 r) ∧ Drawn0 w w' := by
 have HR0 := Aside0.mk hr0; have HC0 := Aside0.mk hc0; clear hr0 hc0
 have H : (spec_l1Sum.l0 k l0 5381 0) = some r := h
 clear h
 have H' := Aside0.mk H
 clear H
 go_enter Try.func103, Try.ntmps103
 go_wp2
 go_loopg [3, 4] k (fun kq v3 v4 w' => ∃ (x3_1 : Int) (x4_1 : Int), v3 = .int .i64 x3_1 ∧ v4 = .int .i64 x4_1 ∧ Aside0 (spec_l1Sum.l0 kq l0 x3_1 x4_1 = some r) ∧ Aside0 (kq ≤ k) ∧ Drawn0 w w')
 case atStart => exact ⟨(5381), (0), pF, pF, H', ⟨Nat.le_refl _⟩, pW⟩
 case round =>
  clear H'
  (try clear c1)
  obtain ⟨x3_1, x4_1, rfl, rfl, HA, HK1, ⟨m1, rfl⟩⟩ := hrel
  cases gk with
  | zero => exact absurd HA.out (by simp [spec_l1Sum.l0])
  | succ k1 =>
   have H := HA.out
   clear HA
   simp only [spec_l1Sum.l0] at H
   by_cases c2 : x4_1 < (l0.length : Int)
   · rw [if_pos c2] at H
     have c2b0 : decide (x4_1 < (l0.length : Int)) = true := decide_eq_true c2
     clear c2
     by_cases c3 : 0 ≤ x4_1
     · rw [if_pos c3] at H
       have c3b0 : decide (0 ≤ x4_1) = true := decide_eq_true c3
       clear c3
       have H' := Aside0.mk H
       clear H
       have p234 : 0 ≤ (x4_1 : Int) := pD
       have q234 : x4_1 < (l0.length : Int) := pD
       obtain ⟨ad234, e234, hx234_0⟩ := Kd.at_int HR0.out x4_1 p234 q234
       cases e234; replace p234 := eq_true p234; replace q234 := eq_true q234
       go_wp2
       go_roundg k1
       case measure => have := HK1.out; omega
       case rel => exact ⟨(Int.tmod (wrap64 ((wrap64 ((wrap64 (x3_1 * 33)) + (wrap64 (rd l0 x4_1)))) + 1)) 2147483647), (wrap64 (x4_1 + 1)), pF, pF, H', ⟨by have := HK1.out; omega⟩, pW⟩
     · rw [if_neg c3] at H
       exact absurd H (by simp)
   · rw [if_neg c2] at H
     have c2b0 : decide (x4_1 < (l0.length : Int)) = false := decide_eq_false c2
     clear c2
     obtain rfl := Option.some.inj H
     go_wp2
     go_ret
     exact ⟨by first | rfl | (simp; done) | (simp [*]; done), pW⟩
def spec_l3Sum_in.f (k : Nat) (l0 : List (S27)) : Option (Int) := if 0 < (l0.length : Int) then ((spec_l3Pack.f k ((rd_T27 l0 0).f0) ((rd_T27 l0 0).f1) ((rd_T27 l0 0).f2) false).bind fun t236 => ((spec_l1Sum.f k t236).bind fun t239 => (some t239))) else (none)
theorem spec_l3Sum_in.mono : ∀ a0 k, LeO (spec_l3Sum_in.f k a0) (spec_l3Sum_in.f (k + 1) a0) := by
 intro a0 k
 unfold spec_l3Sum_in.f
 repeat' with_reducible first | exact spec_l1Sum.mono _ _ | exact spec_l3Pack.mono _ _ _ _ _ | exact LeO.refl _ | exact LeO.none _ | refine LeO.ite ?_ ?_ | refine LeO.bind ?_ (fun _ => ?_)
theorem spec_l3Sum_in.calls (k : Nat) (A0 : Option Addr) (c0 : Nat) (l0 : List (S27)) (r : Int) (w : World) (hr0 : Kd.C k27 w A0 l0.length l0) (hc0 : l0.length ≤ c0) (h : spec_l3Sum_in.f k l0 = some r) :
 Calls Try.prog 54 #[.pointer A0] w fun e w' => e = .returned (.int .i64 r) ∧ Below w.heap.size w w' := by
 have hu27 := Try.underlying27
 have HR0 := Aside0.mk hr0; have HC0 := Aside0.mk hc0; clear hr0 hc0
 have HB := Aside0.mk (Below.refl w.heap.size w)
 have H : (if 0 < (l0.length : Int) then ((spec_l3Pack.f k ((rd_T27 l0 0).f0) ((rd_T27 l0 0).f1) ((rd_T27 l0 0).f2) false).bind fun t236 => ((spec_l1Sum.f k t236).bind fun t239 => (some t239))) else (none)) = some r := h
 clear h
 by_cases c2 : 0 < (l0.length : Int)
 · rw [if_pos c2] at H
   have c2b0 : decide (0 < (l0.length : Int)) = true := decide_eq_true c2
   have c2b1 : decide (0 < l0.length) = true := decide_eq_true (by omega)
   clear c2
   obtain ⟨t236, A30, H⟩ := bO H
   replace H : ((spec_l1Sum.f k t236).bind fun t239 => (some t239)) = some r := H
   have A3 := Aside0.mk A30; clear A30
   obtain ⟨t239, A40, H⟩ := bO H
   replace H : (some t239) = some r := H
   have A4 := Aside0.mk A40; clear A40
   obtain rfl := Option.some.inj H
   have p235 : 0 ≤ (0 : Int) := (by omega)
   have q235 : 0 < (l0.length : Int) := pD
   obtain ⟨ad235, A235_1, c235_1, A235_2, c235_2, e235, hx235_0, hx235_1, hx235_2, hl235_1, hi235_1, hl235_2, hi235_2⟩ := at_T27 HR0.out 0 p235 q235
   cases e235
   have qi235 : (0 < l0.length) = True := eq_true (by omega)
   (try rw [z0] at hx235_0); (try rw [Nat.zero_mul] at hx235_0); (try rw [Addr.add_zero'] at hx235_0); (try rw [z0] at hx235_1); (try rw [Nat.zero_mul] at hx235_1); (try rw [Addr.add_zero'] at hx235_1); (try rw [z0] at hx235_2); (try rw [Nat.zero_mul] at hx235_2); (try rw [Addr.add_zero'] at hx235_2); have HR235_1 := Aside0.mk hi235_1; have HC235_1 := Aside0.mk hl235_1; clear hi235_1 hl235_1; have HR235_2 := Aside0.mk hi235_2; have HC235_2 := Aside0.mk hl235_2; clear hi235_2 hl235_2; replace p235 := eq_true p235; replace q235 := eq_true q235
   go_enter Try.func54, Try.ntmps54
   go_wp2_with (first | ((with_reducible refine gate_callee (f := 71) rfl ?_); refine goesL_ (some 4) rfl rfl Try.func71 (by kernel_rfl) rfl #[.pointer (some _), .bool false] rfl pA ?_; (refine Calls.mono (spec_l3Pack.calls k ((rd_T27 l0 0).f0) _ _ ((rd_T27 l0 0).f1) _ _ ((rd_T27 l0 0).f2) false t236 _ ?side1 ?side2 ?side3 ?side4 A3.out (hpp0_0 := by first | (with_unfolding_all assumption) | (dsimp only; assumption) | (dsimp only [Nat.zero_add]; exact (blk_cell (Aside0.out (by assumption)) _).trans rfl) | (go_simp; done)) (hpp0_1 := by first | (with_unfolding_all assumption) | (dsimp only; assumption) | (dsimp only [Nat.zero_add]; exact (blk_cell (Aside0.out (by assumption)) _).trans rfl) | (go_simp; done)) (hpp0_2 := by first | (with_unfolding_all assumption) | (dsimp only; assumption) | (dsimp only [Nat.zero_add]; exact (blk_cell (Aside0.out (by assumption)) _).trans rfl) | (go_simp; done))) ?_); (case side1 => exact pC HR235_1.out); (case side2 => exact HC235_1.out); (case side3 => exact pC HR235_2.out); (case side4 => exact HC235_2.out); rintro e w5 ⟨v237, rfl, ho0, hb⟩; refine ⟨_, rfl, ?_⟩; have n_ := t2 (Kd.R_lower ho0 (below_size pB)) (below_step pB hb); clear HB; obtain ⟨HO238, HB⟩ := n_; (try clear hb); (try clear ho0); obtain ⟨Ao6, co6, eo6⟩ := Kd.R_slice HO238.out; subst eo6) | ((with_reducible refine gate_callee (f := 103) rfl ?_); refine goesL_ (some 5) rfl rfl Try.func103 (by kernel_rfl) rfl #[.slice Ao6 t236.length co6] rfl pA ?_; (with_reducible refine (spec_l1Sum.calls k _ _ t236 t239 _ ?side1 ?side2 A4.out).mono ?_); (case side1 => exact pC (Kd.R_reads' HO238.out).2.2); (case side2 => exact (Kd.R_reads' HO238.out).2.1); rintro e w' ⟨rfl, ⟨nd, rfl⟩⟩; refine ⟨_, rfl, ?_⟩))
   go_ret
   exact ⟨pE, pB⟩
 · rw [if_neg c2] at H
   exact absurd H (by simp)
def spec_l3Sum.f (k : Nat) (a0_0 : Int) (l0_1 : List (S34)) (l0_2 : List (S86)) : Option (Int) := spec_l3Sum_in.f k [(⟨a0_0, l0_1, l0_2⟩ : S27)]
theorem spec_l3Sum.mono : ∀ (a0_0 : Int) (l0_1 : List (S34)) (l0_2 : List (S86)) (k : Nat), LeO (spec_l3Sum.f k a0_0 l0_1 l0_2) (spec_l3Sum.f (k + 1) a0_0 l0_1 l0_2) := fun a0_0 l0_1 l0_2 k => spec_l3Sum_in.mono [(⟨a0_0, l0_1, l0_2⟩ : S27)] k
set_option maxHeartbeats 8000000 in
theorem spec_l3Sum.calls (k : Nat) (a0_0 : Int) (A0_1 : Option Addr) (c0_1 : Nat) (l0_1 : List (S34)) (A0_2 : Option Addr) (c0_2 : Nat) (l0_2 : List (S86)) (r : Int) (w : World) (hr0_1 : Kd.C k34 w A0_1 l0_1.length l0_1) (hc0_1 : l0_1.length ≤ c0_1) (hr0_2 : Kd.C k86 w A0_2 l0_2.length l0_2) (hc0_2 : l0_2.length ≤ c0_2) (h : spec_l3Sum.f k a0_0 l0_1 l0_2 = some r) {pp0 : Addr} (hpp0_0 : w.cell? pp0 = some (.int .i64 a0_0)) (hpp0_1 : w.cell? ⟨pp0.block, pp0.off + 1, none⟩ = some (.slice A0_1 l0_1.length c0_1)) (hpp0_2 : w.cell? ⟨pp0.block, pp0.off + 2, none⟩ = some (.slice A0_2 l0_2.length c0_2)) :
 Calls Try.prog 54 #[.pointer (some pp0)] w fun e w' => e = .returned (.int .i64 r) ∧ Below w.heap.size w w' := by
 have o0 : Kd.C k27 w (some pp0) 1 [(⟨a0_0, l0_1, l0_2⟩ : S27)] := by
  refine ⟨rfl, by decide, fun _ => ⟨pp0, rfl, fun j p hj => ?_⟩⟩
  cases j with
  | succ j => simp at hj
  | zero =>
   obtain rfl : (⟨a0_0, l0_1, l0_2⟩ : S27) = p := by simpa using hj
   refine ⟨_, rfl, k27_mk w _ hc0_1 hr0_1 hc0_2 hr0_2, fun i u hu => ?_⟩
   match i, hu with
   | 0, hu => obtain rfl := Option.some.inj hu; exact hpp0_0
   | 1, hu => obtain rfl := Option.some.inj hu; exact hpp0_1
   | 2, hu => obtain rfl := Option.some.inj hu; exact hpp0_2
 exact spec_l3Sum_in.calls k (some pp0) 1 [(⟨a0_0, l0_1, l0_2⟩ : S27)] r w o0 (Nat.le_refl 1) h
def spec_l6Sums_in.l0 : Nat → List (S72) → List Int → Int → Option (List Int)
 | 0, _, _, _ => none
 | k + 1, x0, x3, x4 => if 0 < (x0.length : Int) then (if x4 < (((rd_T72 x0 0).f4).length : Int) then (if 0 ≤ x4 then ((spec_l3Sum.f k ((rd_T27 ((rd_T72 x0 0).f4) x4).f0) ((rd_T27 ((rd_T72 x0 0).f4) x4).f1) ((rd_T27 ((rd_T72 x0 0).f4) x4).f2)).bind fun t246 => (if x3.length < 17592186044416 then (spec_l6Sums_in.l0 k x0 (x3 ++ [t246]) (wrap64 (x4 + 1))) else (none))) else (none)) else (some x3)) else (none)
def spec_l6Sums_in.f (k : Nat) (l0 : List (S72)) : Option (List Int) := spec_l6Sums_in.l0 k l0 (([] : List Int)) 0
theorem spec_l6Sums_in.mono_l : ∀ k, (∀ y0 y1 y2, LeO (spec_l6Sums_in.l0 k y0 y1 y2) (spec_l6Sums_in.l0 (k + 1) y0 y1 y2))
 | 0 => fun _ _ _ r h => by simp [spec_l6Sums_in.l0] at h
 | k + 1 => by
  have ih0 := spec_l6Sums_in.mono_l k
  · intro y0 y1 y2
    unfold spec_l6Sums_in.l0
    repeat' with_reducible first | exact ih0 _ _ _ | exact spec_l3Sum.mono _ _ _ _ | exact LeO.refl _ | exact LeO.none _ | refine LeO.ite ?_ ?_ | refine LeO.bind ?_ (fun _ => ?_)
theorem spec_l6Sums_in.mono : ∀ a0 k, LeO (spec_l6Sums_in.f k a0) (spec_l6Sums_in.f (k + 1) a0) := by
 intro a0 k
 have ih0 := spec_l6Sums_in.mono_l k
 unfold spec_l6Sums_in.f
 repeat' with_reducible first | exact ih0 _ _ _ | exact spec_l3Sum.mono _ _ _ _ | exact LeO.refl _ | exact LeO.none _ | refine LeO.ite ?_ ?_ | refine LeO.bind ?_ (fun _ => ?_)
theorem spec_l6Sums_in.calls (k : Nat) (A0 : Option Addr) (c0 : Nat) (l0 : List (S72)) (r : List Int) (w : World) (hr0 : Kd.C k72 w A0 l0.length l0) (hc0 : l0.length ≤ c0) (h : spec_l6Sums_in.f k l0 = some r) :
 Calls Try.prog 98 #[.pointer A0] w fun e w' => ∃ v0_ : Value, e = .returned (v0_) ∧ Kd.R (Kd.int .i64) 2 w' w.heap.size (fun _ => True) v0_ r ∧ Below w.heap.size w w' := by
 have hu27 := Try.underlying27
 have HR0 := Aside0.mk hr0; have HC0 := Aside0.mk hc0; clear hr0 hc0
 have HB := Aside0.mk (Below.refl w.heap.size w)
 have H : (spec_l6Sums_in.l0 k l0 (([] : List Int)) 0) = some r := h
 clear h
 obtain ⟨y240, hy240⟩ : ∃ y_ : List Int, y_ = (([] : List Int)) := ⟨_, rfl⟩
 replace H : (spec_l6Sums_in.l0 k l0 y240 0) = some r := by first | (rw [hy240]; with_reducible exact H) | (have H2_ := (Option.bind_some _ _).symm.trans H; rw [hy240]; with_reducible exact H2_) | (have H2_ := (Option.bind_some _ _).symm.trans H; with_reducible exact H2_) | with_reducible exact H | (rw [hy240]; exact H) | exact H
 have Ny240 := Aside0.mk hy240; clear hy240
 have H' := Aside0.mk H
 clear H
 go_enter Try.func98, Try.ntmps98
 go_wp2_with (first | ((with_reducible refine gate_dst (N := 5) rfl ?_); refine Kd.R_lit (Kd.int .i64) _ 2 ?hg (N := 5) ?hd (xs := ([] : List Int)) (inner := []) (ok := fun _ => True) (okp := fun _ => True) ?hr ?hp (fun _ hk => hk) trivial (Below.refl _ _) (Nat.le_refl _) (by simp) ?_; (case hd => rfl); (case hg => rfl); (case hr => first | (go_simp; done) | (go_simp; rfl)); (case hp => exact (Reps.none _ _)); intro v241 w2 ho3 hb hg_ hnew_; clear hg_ hnew_; (first | rw [← Ny240.out] at ho3 | (simp only [Int.reduceToNat] at ho3; rw [← Ny240.out] at ho3)); have n_ := t2 (Kd.R_lower ho3 (below_size pB)) (below_step pB hb); clear HB; obtain ⟨HO242, HB⟩ := n_; clear hb ho3))
 go_loopg [3, 4] k (fun kq v3 v4 w' => ∃ (x3_1 : List Int) (x4_1 : Int), v4 = .int .i64 x4_1 ∧ Aside0 (spec_l6Sums_in.l0 kq l0 x3_1 x4_1 = some r) ∧ Aside0 (kq ≤ k) ∧ Aside0 (Kd.R (Kd.int .i64) 2 w' w.heap.size (fun _ => True) v3 x3_1) ∧ Aside0 (Below w.heap.size w w'))
 case atStart => exact ⟨(y240), (0), pF, H', ⟨Nat.le_refl _⟩, ⟨(pR HO242)⟩, ⟨pB⟩⟩
 case round =>
  clear H'
  (try clear c1); (try clear p2)
  obtain ⟨x3_1, x4_1, rfl, HA, HK1, HO_3, HB⟩ := hrel
  cases gk with
  | zero => exact absurd HA.out (by simp [spec_l6Sums_in.l0])
  | succ k1 =>
   have H := HA.out
   clear HA
   simp only [spec_l6Sums_in.l0] at H
   by_cases c4 : 0 < (l0.length : Int)
   · rw [if_pos c4] at H
     have c4b0 : decide (0 < (l0.length : Int)) = true := decide_eq_true c4
     have c4b1 : decide (0 < l0.length) = true := decide_eq_true (by omega)
     clear c4
     by_cases c5 : x4_1 < (((rd_T72 l0 0).f4).length : Int)
     · rw [if_pos c5] at H
       have c5b0 : decide (x4_1 < (((rd_T72 l0 0).f4).length : Int)) = true := decide_eq_true c5
       clear c5
       by_cases c6 : 0 ≤ x4_1
       · rw [if_pos c6] at H
         have c6b0 : decide (0 ≤ x4_1) = true := decide_eq_true c6
         clear c6
         obtain ⟨t246, A70, H⟩ := bO H
         replace H : (if x3_1.length < 17592186044416 then (spec_l6Sums_in.l0 k1 l0 (x3_1 ++ [t246]) (wrap64 (x4_1 + 1))) else (none)) = some r := H
         have A7 := Aside0.mk A70; clear A70
         by_cases c8 : x3_1.length < 17592186044416
         · rw [if_pos c8] at H
           have LMc8 := Aside0.mk c8; clear c8
           obtain ⟨y247, hy247⟩ : ∃ y_ : List Int, y_ = (x3_1 ++ [t246]) := ⟨_, rfl⟩
           replace H : (spec_l6Sums_in.l0 k1 l0 y247 (wrap64 (x4_1 + 1))) = some r := by first | (rw [hy247]; with_reducible exact H) | (have H2_ := (Option.bind_some _ _).symm.trans H; rw [hy247]; with_reducible exact H2_) | (have H2_ := (Option.bind_some _ _).symm.trans H; with_reducible exact H2_) | with_reducible exact H | (rw [hy247]; exact H) | exact H
           have Ny247 := Aside0.mk hy247; clear hy247
           have H' := Aside0.mk H
           clear H
           have p243 : 0 ≤ (0 : Int) := (by omega)
           have q243 : 0 < (l0.length : Int) := pD
           obtain ⟨ad243, A243_4, c243_4, e243, hx243_0, hx243_1, hx243_2, hx243_3, hx243_4, hl243_4, hi243_4⟩ := at_T72 HR0.out 0 p243 q243
           cases e243
           have qi243 : (0 < l0.length) = True := eq_true (by omega)
           (try rw [z0] at hx243_0); (try rw [Nat.zero_mul] at hx243_0); (try rw [Addr.add_zero'] at hx243_0); (try rw [z0] at hx243_1); (try rw [Nat.zero_mul] at hx243_1); (try rw [Addr.add_zero'] at hx243_1); (try rw [z0] at hx243_2); (try rw [Nat.zero_mul] at hx243_2); (try rw [Addr.add_zero'] at hx243_2); (try rw [z0] at hx243_3); (try rw [Nat.zero_mul] at hx243_3); (try rw [Addr.add_zero'] at hx243_3); (try rw [z0] at hx243_4); (try rw [Nat.zero_mul] at hx243_4); (try rw [Addr.add_zero'] at hx243_4); replace hx243_0 := cb HB hx243_0; replace hx243_1 := cb HB hx243_1; replace hx243_2 := cb HB hx243_2; replace hx243_3 := cb HB hx243_3; replace hx243_4 := cb HB hx243_4; have HR243_4 := Aside0.mk hi243_4; have HC243_4 := Aside0.mk hl243_4; clear hi243_4 hl243_4; replace p243 := eq_true p243; replace q243 := eq_true q243
           have p244 : 0 ≤ (0 : Int) := (by omega)
           have q244 : 0 < (l0.length : Int) := pD
           (try clear hx243_0); (try clear hx243_1); (try clear hx243_2); (try clear hx243_3); (try clear hHeld)
           obtain ⟨ad244, A244_4, c244_4, e244, hx244_0, hx244_1, hx244_2, hx244_3, hx244_4, hl244_4, hi244_4⟩ := at_T72 HR0.out 0 p244 q244
           obtain rfl : ad243 = ad244 := (by injection e244)
           have qi244 : (0 < l0.length) = True := eq_true (by omega)
           (try rw [z0] at hx244_0); (try rw [Nat.zero_mul] at hx244_0); (try rw [Addr.add_zero'] at hx244_0); (try rw [z0] at hx244_1); (try rw [Nat.zero_mul] at hx244_1); (try rw [Addr.add_zero'] at hx244_1); (try rw [z0] at hx244_2); (try rw [Nat.zero_mul] at hx244_2); (try rw [Addr.add_zero'] at hx244_2); (try rw [z0] at hx244_3); (try rw [Nat.zero_mul] at hx244_3); (try rw [Addr.add_zero'] at hx244_3); (try rw [z0] at hx244_4); (try rw [Nat.zero_mul] at hx244_4); (try rw [Addr.add_zero'] at hx244_4); replace hx244_0 := cb HB hx244_0; replace hx244_1 := cb HB hx244_1; replace hx244_2 := cb HB hx244_2; replace hx244_3 := cb HB hx244_3; replace hx244_4 := cb HB hx244_4; have HR244_4 := Aside0.mk hi244_4; have HC244_4 := Aside0.mk hl244_4; clear hi244_4 hl244_4; replace p244 := eq_true p244; replace q244 := eq_true q244
           have ea_ := Option.some.inj (hx243_4.symm.trans hx244_4)
           injection ea_ with ea_ en_ ec_
           subst ea_; subst ec_; clear en_
           have p245 : 0 ≤ (x4_1 : Int) := pD
           have q245 : x4_1 < (((rd_T72 l0 0).f4).length : Int) := pD
           obtain ⟨ad245, A245_1, c245_1, A245_2, c245_2, e245, hx245_0, hx245_1, hx245_2, hl245_1, hi245_1, hl245_2, hi245_2⟩ := at_T27 HR244_4.out x4_1 p245 q245
           cases e245; replace hx245_0 := cb HB hx245_0; replace hx245_1 := cb HB hx245_1; replace hx245_2 := cb HB hx245_2; have HR245_1 := Aside0.mk hi245_1; have HC245_1 := Aside0.mk hl245_1; clear hi245_1 hl245_1; have HR245_2 := Aside0.mk hi245_2; have HC245_2 := Aside0.mk hl245_2; clear hi245_2 hl245_2; replace p245 := eq_true p245; replace q245 := eq_true q245
           go_wp2_with (first | ((with_reducible refine gate_callee (f := 54) rfl ?_); refine goesL_ (some 22) rfl rfl Try.func54 (by kernel_rfl) rfl #[.pointer (some _)] rfl pA ?_; (refine Calls.mono (spec_l3Sum.calls k1 ((rd_T27 ((rd_T72 l0 0).f4) x4_1).f0) _ _ ((rd_T27 ((rd_T72 l0 0).f4) x4_1).f1) _ _ ((rd_T27 ((rd_T72 l0 0).f4) x4_1).f2) t246 _ ?side1 ?side2 ?side3 ?side4 A7.out (hpp0_0 := by first | (with_unfolding_all assumption) | (dsimp only; assumption) | (dsimp only [Nat.zero_add]; exact (blk_cell (Aside0.out (by assumption)) _).trans rfl) | (go_simp; done)) (hpp0_1 := by first | (with_unfolding_all assumption) | (dsimp only; assumption) | (dsimp only [Nat.zero_add]; exact (blk_cell (Aside0.out (by assumption)) _).trans rfl) | (go_simp; done)) (hpp0_2 := by first | (with_unfolding_all assumption) | (dsimp only; assumption) | (dsimp only [Nat.zero_add]; exact (blk_cell (Aside0.out (by assumption)) _).trans rfl) | (go_simp; done))) ?_); (case side1 => exact pC (Kd.C_below HR245_1.out HB.out)); (case side2 => exact HC245_1.out); (case side3 => exact pC (Kd.C_below HR245_2.out HB.out)); (case side4 => exact HC245_2.out); rintro e w9 ⟨rfl, hb⟩; refine ⟨_, rfl, ?_⟩; have n_ := t2 (Kd.R_below (pR HO_3) hb) (below_step pB hb); clear HO_3 HB; obtain ⟨HO_3, HB⟩ := n_; (try clear hb)) | ((with_reducible refine gate_builtin (b := .append) (xs := #[.tmp 15, .tmp 23]) rfl ?_); at_builtin; refine Kd.R_append (Kd.int .i64) (w0 := w) w.heap.size rfl (.tmp 15) (.tmp 23) 32 2 (.int .i64 0) 8 rfl Try.underlying32 info2 rfl (by decide) (by omega) u3 x3_1 t246 [.int .i64 t246] (fun _ => True) (fun _ => False) rfl rfl ?aP (fun _ hk => hk.elim) ?aF ?aO ?aB ?aS ?aL ?_; (case aP => exact rfl); (case aB => exact pB); (case aF => exact (fun _ _ => trivial)); (case aO => exact (pR HO_3)); (case aS => exact (below_size pB)); (case aL => have := LMc8.out; omega); intro v248 w10 ho hb hg hat; rw [← Ny247.out] at ho; have n_ := t2 (hb) (ho); clear HB HO_3; obtain ⟨HB, HO249⟩ := n_; clear ho hb hg hat))
           go_roundg k1
           case measure => have := HK1.out; omega
           case rel => exact ⟨(y247), (wrap64 (x4_1 + 1)), pF, H', ⟨by have := HK1.out; omega⟩, ⟨(pR HO249)⟩, ⟨pB⟩⟩
         · rw [if_neg c8] at H
           exact absurd H (by simp)
       · rw [if_neg c6] at H
         exact absurd H (by simp)
     · rw [if_neg c5] at H
       have c5b0 : decide (x4_1 < (((rd_T72 l0 0).f4).length : Int)) = false := decide_eq_false c5
       clear c5
       obtain rfl := Option.some.inj H
       have p243 : 0 ≤ (0 : Int) := (by omega)
       have q243 : 0 < (l0.length : Int) := pD
       obtain ⟨ad243, A243_4, c243_4, e243, hx243_0, hx243_1, hx243_2, hx243_3, hx243_4, hl243_4, hi243_4⟩ := at_T72 HR0.out 0 p243 q243
       cases e243
       have qi243 : (0 < l0.length) = True := eq_true (by omega)
       (try rw [z0] at hx243_0); (try rw [Nat.zero_mul] at hx243_0); (try rw [Addr.add_zero'] at hx243_0); (try rw [z0] at hx243_1); (try rw [Nat.zero_mul] at hx243_1); (try rw [Addr.add_zero'] at hx243_1); (try rw [z0] at hx243_2); (try rw [Nat.zero_mul] at hx243_2); (try rw [Addr.add_zero'] at hx243_2); (try rw [z0] at hx243_3); (try rw [Nat.zero_mul] at hx243_3); (try rw [Addr.add_zero'] at hx243_3); (try rw [z0] at hx243_4); (try rw [Nat.zero_mul] at hx243_4); (try rw [Addr.add_zero'] at hx243_4); replace hx243_0 := cb HB hx243_0; replace hx243_1 := cb HB hx243_1; replace hx243_2 := cb HB hx243_2; replace hx243_3 := cb HB hx243_3; replace hx243_4 := cb HB hx243_4; have HR243_4 := Aside0.mk hi243_4; have HC243_4 := Aside0.mk hl243_4; clear hi243_4 hl243_4; replace p243 := eq_true p243; replace q243 := eq_true q243
       go_wp2
       go_ret
       exact ⟨_, pE, (pR HO_3), pB⟩
   · rw [if_neg c4] at H
     exact absurd H (by simp)
def spec_l6Sums.f (k : Nat) (a0_0 : Int) (a0_1 : Int) (a0_2 : Int) (a0_3 : Int) (l0_4 : List (S27)) : Option (List Int) := spec_l6Sums_in.f k [(⟨a0_0, a0_1, a0_2, a0_3, l0_4⟩ : S72)]
theorem spec_l6Sums.mono : ∀ (a0_0 : Int) (a0_1 : Int) (a0_2 : Int) (a0_3 : Int) (l0_4 : List (S27)) (k : Nat), LeO (spec_l6Sums.f k a0_0 a0_1 a0_2 a0_3 l0_4) (spec_l6Sums.f (k + 1) a0_0 a0_1 a0_2 a0_3 l0_4) := fun a0_0 a0_1 a0_2 a0_3 l0_4 k => spec_l6Sums_in.mono [(⟨a0_0, a0_1, a0_2, a0_3, l0_4⟩ : S72)] k
set_option maxHeartbeats 8000000 in
theorem spec_l6Sums.calls (k : Nat) (a0_0 : Int) (a0_1 : Int) (a0_2 : Int) (a0_3 : Int) (A0_4 : Option Addr) (c0_4 : Nat) (l0_4 : List (S27)) (r : List Int) (w : World) (hr0_4 : Kd.C k27 w A0_4 l0_4.length l0_4) (hc0_4 : l0_4.length ≤ c0_4) (h : spec_l6Sums.f k a0_0 a0_1 a0_2 a0_3 l0_4 = some r) {pp0 : Addr} (hpp0_0 : w.cell? pp0 = some (.int .i64 a0_0)) (hpp0_1 : w.cell? ⟨pp0.block, pp0.off + 1, none⟩ = some (.int .i64 a0_1)) (hpp0_2 : w.cell? ⟨pp0.block, pp0.off + 2, none⟩ = some (.int .i64 a0_2)) (hpp0_3 : w.cell? ⟨pp0.block, pp0.off + 3, none⟩ = some (.int .i64 a0_3)) (hpp0_4 : w.cell? ⟨pp0.block, pp0.off + 4, none⟩ = some (.slice A0_4 l0_4.length c0_4)) :
 Calls Try.prog 98 #[.pointer (some pp0)] w fun e w' => ∃ v0_ : Value, e = .returned (v0_) ∧ Kd.R (Kd.int .i64) 2 w' w.heap.size (fun _ => True) v0_ r ∧ Below w.heap.size w w' := by
 have o0 : Kd.C k72 w (some pp0) 1 [(⟨a0_0, a0_1, a0_2, a0_3, l0_4⟩ : S72)] := by
  refine ⟨rfl, by decide, fun _ => ⟨pp0, rfl, fun j p hj => ?_⟩⟩
  cases j with
  | succ j => simp at hj
  | zero =>
   obtain rfl : (⟨a0_0, a0_1, a0_2, a0_3, l0_4⟩ : S72) = p := by simpa using hj
   refine ⟨_, rfl, k72_mk w _ hc0_4 hr0_4, fun i u hu => ?_⟩
   match i, hu with
   | 0, hu => obtain rfl := Option.some.inj hu; exact hpp0_0
   | 1, hu => obtain rfl := Option.some.inj hu; exact hpp0_1
   | 2, hu => obtain rfl := Option.some.inj hu; exact hpp0_2
   | 3, hu => obtain rfl := Option.some.inj hu; exact hpp0_3
   | 4, hu => obtain rfl := Option.some.inj hu; exact hpp0_4
 exact spec_l6Sums_in.calls k (some pp0) 1 [(⟨a0_0, a0_1, a0_2, a0_3, l0_4⟩ : S72)] r w o0 (Nat.le_refl 1) h
def spec_l4Sum.f (a0 : Int) : Option (Bool) := (spec_l1In.f a0 0 2147483646).bind fun t250 => (some t250)
theorem spec_l4Sum.calls (a0 : Int) (r : Bool) (w : World) (h : spec_l4Sum.f a0 = some r) :
 Calls Try.prog 130 #[.int .i64 a0] w fun e w' => e = .returned (.bool r) ∧ Drawn0 w w' := by
 have H : ((spec_l1In.f a0 0 2147483646).bind fun t250 => (some t250)) = some r := h
 clear h
 obtain ⟨t250, A20, H⟩ := bO H
 replace H : (some t250) = some r := H
 have A2 := Aside0.mk A20; clear A20
 obtain rfl := Option.some.inj H
 go_enter Try.func130, Try.ntmps130
 go_wp2_with (first | ((with_reducible refine gate_callee (f := 81) rfl ?_); refine goesL_ (some 4) rfl rfl Try.func81 (by kernel_rfl) rfl #[.int .i64 a0, .int .i64 0, .int .i64 2147483646] rfl pA ?_; (with_reducible refine (spec_l1In.calls a0 0 2147483646 t250 _ A2.out).mono ?_); rintro e w' ⟨rfl, ⟨nd, rfl⟩⟩; refine ⟨_, rfl, ?_⟩))
 go_ret
 exact ⟨by first | rfl | (simp; done) | (simp [*]; done), pW⟩
def spec_l1Bits.f (a0 : Int) : Option (Bool) := (spec_l1In.f a0 1 1023).bind fun t251 => (if t251 = true then (some (decide ((Int.tmod a0 256) > 0))) else (some false))
theorem spec_l1Bits.calls (a0 : Int) (r : Bool) (w : World) (h : spec_l1Bits.f a0 = some r) :
 Calls Try.prog 131 #[.int .i64 a0] w fun e w' => e = .returned (.bool r) ∧ Drawn0 w w' := by
 have H : ((spec_l1In.f a0 1 1023).bind fun t251 => (if t251 = true then (some (decide ((Int.tmod a0 256) > 0))) else (some false))) = some r := h
 clear h
 obtain ⟨t251, A20, H⟩ := bO H
 replace H : (if t251 = true then (some (decide ((Int.tmod a0 256) > 0))) else (some false)) = some r := H
 have A2 := Aside0.mk A20; clear A20
 by_cases c3 : t251 = true
 · subst c3
   have H1 : (some (decide ((Int.tmod a0 256) > 0))) = some r := by rw [if_pos rfl] at H; exact H
   clear H; have H := H1; clear H1
   obtain rfl := Option.some.inj H
   go_enter Try.func131, Try.ntmps131
   go_wp2_with (first | ((with_reducible refine gate_callee (f := 81) rfl ?_); refine goesL_ (some 4) rfl rfl Try.func81 (by kernel_rfl) rfl #[.int .i64 a0, .int .i64 1, .int .i64 1023] rfl pA ?_; (with_reducible refine (spec_l1In.calls a0 1 1023 true _ A2.out).mono ?_); rintro e w' ⟨rfl, ⟨nd, rfl⟩⟩; refine ⟨_, rfl, ?_⟩))
   go_ret
   exact ⟨by first | rfl | (simp; done) | (simp [*]; done), pW⟩
 · replace c3 := Bool.eq_false_iff.mpr c3
   subst c3
   have H1 : (some false) = some r := by rw [if_neg (show ¬ (false = true) by decide)] at H; exact H
   clear H; have H := H1; clear H1
   obtain rfl := Option.some.inj H
   go_enter Try.func131, Try.ntmps131
   go_wp2_with (first | ((with_reducible refine gate_callee (f := 81) rfl ?_); refine goesL_ (some 4) rfl rfl Try.func81 (by kernel_rfl) rfl #[.int .i64 a0, .int .i64 1, .int .i64 1023] rfl pA ?_; (with_reducible refine (spec_l1In.calls a0 1 1023 false _ A2.out).mono ?_); rintro e w' ⟨rfl, ⟨nd, rfl⟩⟩; refine ⟨_, rfl, ?_⟩))
   go_ret
   exact ⟨by first | rfl | (simp; done) | (simp [*]; done), pW⟩
def spec_l6Bases_in.l0 : Nat → List (S72) → Int → Option (Bool)
 | 0, _, _ => none
 | k + 1, x0, x3 => if 0 < (x0.length : Int) then (if x3 < (((rd_T72 x0 0).f4).length : Int) then (if 0 ≤ x3 then (if (((((rd_T27 ((rd_T72 x0 0).f4) x3).f1).length : Int) == 0) != (x3 == 0)) = true then (some false) else (spec_l6Bases_in.l0 k x0 (wrap64 (x3 + 1)))) else (none)) else (some true)) else (none)
def spec_l6Bases_in.f (k : Nat) (l0 : List (S72)) : Option (Bool) := spec_l6Bases_in.l0 k l0 0
theorem spec_l6Bases_in.mono_l : ∀ k, (∀ y0 y1, LeO (spec_l6Bases_in.l0 k y0 y1) (spec_l6Bases_in.l0 (k + 1) y0 y1))
 | 0 => fun _ _ r h => by simp [spec_l6Bases_in.l0] at h
 | k + 1 => by
  have ih0 := spec_l6Bases_in.mono_l k
  · intro y0 y1
    unfold spec_l6Bases_in.l0
    repeat' with_reducible first | exact ih0 _ _ | exact LeO.refl _ | exact LeO.none _ | refine LeO.ite ?_ ?_ | refine LeO.bind ?_ (fun _ => ?_)
theorem spec_l6Bases_in.mono : ∀ a0 k, LeO (spec_l6Bases_in.f k a0) (spec_l6Bases_in.f (k + 1) a0) := by
 intro a0 k
 have ih0 := spec_l6Bases_in.mono_l k
 unfold spec_l6Bases_in.f
 repeat' with_reducible first | exact ih0 _ _ | exact LeO.refl _ | exact LeO.none _ | refine LeO.ite ?_ ?_ | refine LeO.bind ?_ (fun _ => ?_)
theorem spec_l6Bases_in.calls (k : Nat) (A0 : Option Addr) (c0 : Nat) (l0 : List (S72)) (r : Bool) (w : World) (hr0 : Kd.C k72 w A0 l0.length l0) (hc0 : l0.length ≤ c0) (h : spec_l6Bases_in.f k l0 = some r) :
 Calls Try.prog 132 #[.pointer A0] w fun e w' => e = .returned (.bool r) ∧ Below w.heap.size w w' := by
 have HR0 := Aside0.mk hr0; have HC0 := Aside0.mk hc0; clear hr0 hc0
 have HB := Aside0.mk (Below.refl w.heap.size w)
 have H : (spec_l6Bases_in.l0 k l0 0) = some r := h
 clear h
 have H' := Aside0.mk H
 clear H
 go_enter Try.func132, Try.ntmps132
 go_wp2
 go_loopg [3] k (fun kq v3 w' => ∃ (x3_1 : Int), v3 = .int .i64 x3_1 ∧ Aside0 (spec_l6Bases_in.l0 kq l0 x3_1 = some r) ∧ Aside0 (kq ≤ k) ∧ Aside0 (Below w.heap.size w w'))
 case atStart => exact ⟨(0), pF, H', ⟨Nat.le_refl _⟩, ⟨pB⟩⟩
 case round =>
  clear H'
  (try clear c1)
  obtain ⟨x3_1, rfl, HA, HK1, HB⟩ := hrel
  cases gk with
  | zero => exact absurd HA.out (by simp [spec_l6Bases_in.l0])
  | succ k1 =>
   have H := HA.out
   clear HA
   simp only [spec_l6Bases_in.l0] at H
   by_cases c2 : 0 < (l0.length : Int)
   · rw [if_pos c2] at H
     have c2b0 : decide (0 < (l0.length : Int)) = true := decide_eq_true c2
     have c2b1 : decide (0 < l0.length) = true := decide_eq_true (by omega)
     clear c2
     by_cases c3 : x3_1 < (((rd_T72 l0 0).f4).length : Int)
     · rw [if_pos c3] at H
       have c3b0 : decide (x3_1 < (((rd_T72 l0 0).f4).length : Int)) = true := decide_eq_true c3
       clear c3
       by_cases c4 : 0 ≤ x3_1
       · rw [if_pos c4] at H
         have c4b0 : decide (0 ≤ x3_1) = true := decide_eq_true c4
         clear c4
         by_cases c5 : (((((rd_T27 ((rd_T72 l0 0).f4) x3_1).f1).length : Int) == 0) != (x3_1 == 0)) = true
         · rw [if_pos c5] at H
           have c5b0 : (((((rd_T27 ((rd_T72 l0 0).f4) x3_1).f1).length : Int) == 0) != (x3_1 == 0)) = true := c5
           (try (have c5b1 : decide (((((rd_T27 ((rd_T72 l0 0).f4) x3_1).f1).length : Int) == 0) = (x3_1 == 0)) = false := by simpa using c5))
           (try (have c5b2 : (((((rd_T27 ((rd_T72 l0 0).f4) x3_1).f1).length : Int) == 0) == (x3_1 == 0)) = false := by simpa using c5))
           (try (have c5b3 : ¬ (((((rd_T27 ((rd_T72 l0 0).f4) x3_1).f1).length : Int) == 0) = (x3_1 == 0)) := by simpa using c5))
           clear c5
           obtain rfl := Option.some.inj H
           have p252 : 0 ≤ (0 : Int) := (by omega)
           have q252 : 0 < (l0.length : Int) := pD
           obtain ⟨ad252, A252_4, c252_4, e252, hx252_0, hx252_1, hx252_2, hx252_3, hx252_4, hl252_4, hi252_4⟩ := at_T72 HR0.out 0 p252 q252
           cases e252
           have qi252 : (0 < l0.length) = True := eq_true (by omega)
           (try rw [z0] at hx252_0); (try rw [Nat.zero_mul] at hx252_0); (try rw [Addr.add_zero'] at hx252_0); (try rw [z0] at hx252_1); (try rw [Nat.zero_mul] at hx252_1); (try rw [Addr.add_zero'] at hx252_1); (try rw [z0] at hx252_2); (try rw [Nat.zero_mul] at hx252_2); (try rw [Addr.add_zero'] at hx252_2); (try rw [z0] at hx252_3); (try rw [Nat.zero_mul] at hx252_3); (try rw [Addr.add_zero'] at hx252_3); (try rw [z0] at hx252_4); (try rw [Nat.zero_mul] at hx252_4); (try rw [Addr.add_zero'] at hx252_4); replace hx252_0 := cb HB hx252_0; replace hx252_1 := cb HB hx252_1; replace hx252_2 := cb HB hx252_2; replace hx252_3 := cb HB hx252_3; replace hx252_4 := cb HB hx252_4; have HR252_4 := Aside0.mk hi252_4; have HC252_4 := Aside0.mk hl252_4; clear hi252_4 hl252_4; replace p252 := eq_true p252; replace q252 := eq_true q252
           have p253 : 0 ≤ (0 : Int) := (by omega)
           have q253 : 0 < (l0.length : Int) := pD
           (try clear hx252_0); (try clear hx252_1); (try clear hx252_2); (try clear hx252_3); (try clear hHeld)
           obtain ⟨ad253, A253_4, c253_4, e253, hx253_0, hx253_1, hx253_2, hx253_3, hx253_4, hl253_4, hi253_4⟩ := at_T72 HR0.out 0 p253 q253
           obtain rfl : ad252 = ad253 := (by injection e253)
           have qi253 : (0 < l0.length) = True := eq_true (by omega)
           (try rw [z0] at hx253_0); (try rw [Nat.zero_mul] at hx253_0); (try rw [Addr.add_zero'] at hx253_0); (try rw [z0] at hx253_1); (try rw [Nat.zero_mul] at hx253_1); (try rw [Addr.add_zero'] at hx253_1); (try rw [z0] at hx253_2); (try rw [Nat.zero_mul] at hx253_2); (try rw [Addr.add_zero'] at hx253_2); (try rw [z0] at hx253_3); (try rw [Nat.zero_mul] at hx253_3); (try rw [Addr.add_zero'] at hx253_3); (try rw [z0] at hx253_4); (try rw [Nat.zero_mul] at hx253_4); (try rw [Addr.add_zero'] at hx253_4); replace hx253_0 := cb HB hx253_0; replace hx253_1 := cb HB hx253_1; replace hx253_2 := cb HB hx253_2; replace hx253_3 := cb HB hx253_3; replace hx253_4 := cb HB hx253_4; have HR253_4 := Aside0.mk hi253_4; have HC253_4 := Aside0.mk hl253_4; clear hi253_4 hl253_4; replace p253 := eq_true p253; replace q253 := eq_true q253
           have ea_ := Option.some.inj (hx252_4.symm.trans hx253_4)
           injection ea_ with ea_ en_ ec_
           subst ea_; subst ec_; clear en_
           have p254 : 0 ≤ (x3_1 : Int) := pD
           have q254 : x3_1 < (((rd_T72 l0 0).f4).length : Int) := pD
           obtain ⟨ad254, A254_1, c254_1, A254_2, c254_2, e254, hx254_0, hx254_1, hx254_2, hl254_1, hi254_1, hl254_2, hi254_2⟩ := at_T27 HR253_4.out x3_1 p254 q254
           cases e254; replace hx254_0 := cb HB hx254_0; replace hx254_1 := cb HB hx254_1; replace hx254_2 := cb HB hx254_2; have HR254_1 := Aside0.mk hi254_1; have HC254_1 := Aside0.mk hl254_1; clear hi254_1 hl254_1; have HR254_2 := Aside0.mk hi254_2; have HC254_2 := Aside0.mk hl254_2; clear hi254_2 hl254_2; replace p254 := eq_true p254; replace q254 := eq_true q254
           go_wp2
           go_ret
           exact ⟨pE, pB⟩
         · rw [if_neg c5] at H
           have c5b0 : (((((rd_T27 ((rd_T72 l0 0).f4) x3_1).f1).length : Int) == 0) != (x3_1 == 0)) = false := by simpa using c5
           (try (have c5b1 : decide (((((rd_T27 ((rd_T72 l0 0).f4) x3_1).f1).length : Int) == 0) = (x3_1 == 0)) = true := by simpa using c5))
           (try (have c5b2 : (((((rd_T27 ((rd_T72 l0 0).f4) x3_1).f1).length : Int) == 0) == (x3_1 == 0)) = true := by simpa using c5))
           clear c5
           have H' := Aside0.mk H
           clear H
           have p252 : 0 ≤ (0 : Int) := (by omega)
           have q252 : 0 < (l0.length : Int) := pD
           obtain ⟨ad252, A252_4, c252_4, e252, hx252_0, hx252_1, hx252_2, hx252_3, hx252_4, hl252_4, hi252_4⟩ := at_T72 HR0.out 0 p252 q252
           cases e252
           have qi252 : (0 < l0.length) = True := eq_true (by omega)
           (try rw [z0] at hx252_0); (try rw [Nat.zero_mul] at hx252_0); (try rw [Addr.add_zero'] at hx252_0); (try rw [z0] at hx252_1); (try rw [Nat.zero_mul] at hx252_1); (try rw [Addr.add_zero'] at hx252_1); (try rw [z0] at hx252_2); (try rw [Nat.zero_mul] at hx252_2); (try rw [Addr.add_zero'] at hx252_2); (try rw [z0] at hx252_3); (try rw [Nat.zero_mul] at hx252_3); (try rw [Addr.add_zero'] at hx252_3); (try rw [z0] at hx252_4); (try rw [Nat.zero_mul] at hx252_4); (try rw [Addr.add_zero'] at hx252_4); replace hx252_0 := cb HB hx252_0; replace hx252_1 := cb HB hx252_1; replace hx252_2 := cb HB hx252_2; replace hx252_3 := cb HB hx252_3; replace hx252_4 := cb HB hx252_4; have HR252_4 := Aside0.mk hi252_4; have HC252_4 := Aside0.mk hl252_4; clear hi252_4 hl252_4; replace p252 := eq_true p252; replace q252 := eq_true q252
           have p253 : 0 ≤ (0 : Int) := (by omega)
           have q253 : 0 < (l0.length : Int) := pD
           (try clear hx252_0); (try clear hx252_1); (try clear hx252_2); (try clear hx252_3); (try clear hHeld)
           obtain ⟨ad253, A253_4, c253_4, e253, hx253_0, hx253_1, hx253_2, hx253_3, hx253_4, hl253_4, hi253_4⟩ := at_T72 HR0.out 0 p253 q253
           obtain rfl : ad252 = ad253 := (by injection e253)
           have qi253 : (0 < l0.length) = True := eq_true (by omega)
           (try rw [z0] at hx253_0); (try rw [Nat.zero_mul] at hx253_0); (try rw [Addr.add_zero'] at hx253_0); (try rw [z0] at hx253_1); (try rw [Nat.zero_mul] at hx253_1); (try rw [Addr.add_zero'] at hx253_1); (try rw [z0] at hx253_2); (try rw [Nat.zero_mul] at hx253_2); (try rw [Addr.add_zero'] at hx253_2); (try rw [z0] at hx253_3); (try rw [Nat.zero_mul] at hx253_3); (try rw [Addr.add_zero'] at hx253_3); (try rw [z0] at hx253_4); (try rw [Nat.zero_mul] at hx253_4); (try rw [Addr.add_zero'] at hx253_4); replace hx253_0 := cb HB hx253_0; replace hx253_1 := cb HB hx253_1; replace hx253_2 := cb HB hx253_2; replace hx253_3 := cb HB hx253_3; replace hx253_4 := cb HB hx253_4; have HR253_4 := Aside0.mk hi253_4; have HC253_4 := Aside0.mk hl253_4; clear hi253_4 hl253_4; replace p253 := eq_true p253; replace q253 := eq_true q253
           have ea_ := Option.some.inj (hx252_4.symm.trans hx253_4)
           injection ea_ with ea_ en_ ec_
           subst ea_; subst ec_; clear en_
           have p254 : 0 ≤ (x3_1 : Int) := pD
           have q254 : x3_1 < (((rd_T72 l0 0).f4).length : Int) := pD
           obtain ⟨ad254, A254_1, c254_1, A254_2, c254_2, e254, hx254_0, hx254_1, hx254_2, hl254_1, hi254_1, hl254_2, hi254_2⟩ := at_T27 HR253_4.out x3_1 p254 q254
           cases e254; replace hx254_0 := cb HB hx254_0; replace hx254_1 := cb HB hx254_1; replace hx254_2 := cb HB hx254_2; have HR254_1 := Aside0.mk hi254_1; have HC254_1 := Aside0.mk hl254_1; clear hi254_1 hl254_1; have HR254_2 := Aside0.mk hi254_2; have HC254_2 := Aside0.mk hl254_2; clear hi254_2 hl254_2; replace p254 := eq_true p254; replace q254 := eq_true q254
           go_wp2
           go_roundg k1
           case measure => have := HK1.out; omega
           case rel => exact ⟨(wrap64 (x3_1 + 1)), pF, H', ⟨by have := HK1.out; omega⟩, ⟨pB⟩⟩
       · rw [if_neg c4] at H
         exact absurd H (by simp)
     · rw [if_neg c3] at H
       have c3b0 : decide (x3_1 < (((rd_T72 l0 0).f4).length : Int)) = false := decide_eq_false c3
       clear c3
       obtain rfl := Option.some.inj H
       have p252 : 0 ≤ (0 : Int) := (by omega)
       have q252 : 0 < (l0.length : Int) := pD
       obtain ⟨ad252, A252_4, c252_4, e252, hx252_0, hx252_1, hx252_2, hx252_3, hx252_4, hl252_4, hi252_4⟩ := at_T72 HR0.out 0 p252 q252
       cases e252
       have qi252 : (0 < l0.length) = True := eq_true (by omega)
       (try rw [z0] at hx252_0); (try rw [Nat.zero_mul] at hx252_0); (try rw [Addr.add_zero'] at hx252_0); (try rw [z0] at hx252_1); (try rw [Nat.zero_mul] at hx252_1); (try rw [Addr.add_zero'] at hx252_1); (try rw [z0] at hx252_2); (try rw [Nat.zero_mul] at hx252_2); (try rw [Addr.add_zero'] at hx252_2); (try rw [z0] at hx252_3); (try rw [Nat.zero_mul] at hx252_3); (try rw [Addr.add_zero'] at hx252_3); (try rw [z0] at hx252_4); (try rw [Nat.zero_mul] at hx252_4); (try rw [Addr.add_zero'] at hx252_4); replace hx252_0 := cb HB hx252_0; replace hx252_1 := cb HB hx252_1; replace hx252_2 := cb HB hx252_2; replace hx252_3 := cb HB hx252_3; replace hx252_4 := cb HB hx252_4; have HR252_4 := Aside0.mk hi252_4; have HC252_4 := Aside0.mk hl252_4; clear hi252_4 hl252_4; replace p252 := eq_true p252; replace q252 := eq_true q252
       go_wp2
       go_ret
       exact ⟨pE, pB⟩
   · rw [if_neg c2] at H
     exact absurd H (by simp)
def spec_l6Bases.f (k : Nat) (a0_0 : Int) (a0_1 : Int) (a0_2 : Int) (a0_3 : Int) (l0_4 : List (S27)) : Option (Bool) := spec_l6Bases_in.f k [(⟨a0_0, a0_1, a0_2, a0_3, l0_4⟩ : S72)]
theorem spec_l6Bases.mono : ∀ (a0_0 : Int) (a0_1 : Int) (a0_2 : Int) (a0_3 : Int) (l0_4 : List (S27)) (k : Nat), LeO (spec_l6Bases.f k a0_0 a0_1 a0_2 a0_3 l0_4) (spec_l6Bases.f (k + 1) a0_0 a0_1 a0_2 a0_3 l0_4) := fun a0_0 a0_1 a0_2 a0_3 l0_4 k => spec_l6Bases_in.mono [(⟨a0_0, a0_1, a0_2, a0_3, l0_4⟩ : S72)] k
set_option maxHeartbeats 8000000 in
theorem spec_l6Bases.calls (k : Nat) (a0_0 : Int) (a0_1 : Int) (a0_2 : Int) (a0_3 : Int) (A0_4 : Option Addr) (c0_4 : Nat) (l0_4 : List (S27)) (r : Bool) (w : World) (hr0_4 : Kd.C k27 w A0_4 l0_4.length l0_4) (hc0_4 : l0_4.length ≤ c0_4) (h : spec_l6Bases.f k a0_0 a0_1 a0_2 a0_3 l0_4 = some r) {pp0 : Addr} (hpp0_0 : w.cell? pp0 = some (.int .i64 a0_0)) (hpp0_1 : w.cell? ⟨pp0.block, pp0.off + 1, none⟩ = some (.int .i64 a0_1)) (hpp0_2 : w.cell? ⟨pp0.block, pp0.off + 2, none⟩ = some (.int .i64 a0_2)) (hpp0_3 : w.cell? ⟨pp0.block, pp0.off + 3, none⟩ = some (.int .i64 a0_3)) (hpp0_4 : w.cell? ⟨pp0.block, pp0.off + 4, none⟩ = some (.slice A0_4 l0_4.length c0_4)) :
 Calls Try.prog 132 #[.pointer (some pp0)] w fun e w' => e = .returned (.bool r) ∧ Below w.heap.size w w' := by
 have o0 : Kd.C k72 w (some pp0) 1 [(⟨a0_0, a0_1, a0_2, a0_3, l0_4⟩ : S72)] := by
  refine ⟨rfl, by decide, fun _ => ⟨pp0, rfl, fun j p hj => ?_⟩⟩
  cases j with
  | succ j => simp at hj
  | zero =>
   obtain rfl : (⟨a0_0, a0_1, a0_2, a0_3, l0_4⟩ : S72) = p := by simpa using hj
   refine ⟨_, rfl, k72_mk w _ hc0_4 hr0_4, fun i u hu => ?_⟩
   match i, hu with
   | 0, hu => obtain rfl := Option.some.inj hu; exact hpp0_0
   | 1, hu => obtain rfl := Option.some.inj hu; exact hpp0_1
   | 2, hu => obtain rfl := Option.some.inj hu; exact hpp0_2
   | 3, hu => obtain rfl := Option.some.inj hu; exact hpp0_3
   | 4, hu => obtain rfl := Option.some.inj hu; exact hpp0_4
 exact spec_l6Bases_in.calls k (some pp0) 1 [(⟨a0_0, a0_1, a0_2, a0_3, l0_4⟩ : S72)] r w o0 (Nat.le_refl 1) h
def spec_l1Four.f (a0 : Int) : Option (List Int) := some (([(a0 / 16777216) % 256, (a0 / 65536) % 256, (a0 / 256) % 256, (a0) % 256] : List Int))
theorem spec_l1Four.calls (a0 : Int) (r : List Int) (w : World) (h : spec_l1Four.f a0 = some r) :
 Calls Try.prog 161 #[.int .i64 a0] w fun e w' => ∃ v0_ : Value, e = .returned (v0_) ∧ Kd.R (Kd.int .u8) 5 w' w.heap.size (fun _ => True) v0_ r ∧ Below w.heap.size w w' := by
 have HB := Aside0.mk (Below.refl w.heap.size w)
 have H : (some (([(a0 / 16777216) % 256, (a0 / 65536) % 256, (a0 / 256) % 256, (a0) % 256] : List Int))) = some r := h
 clear h
 obtain ⟨y255, hy255⟩ : ∃ y_ : List Int, y_ = (([(a0 / 16777216) % 256, (a0 / 65536) % 256, (a0 / 256) % 256, (a0) % 256] : List Int)) := ⟨_, rfl⟩
 replace H : (some y255) = some r := by first | (rw [hy255]; with_reducible exact H) | (have H2_ := (Option.bind_some _ _).symm.trans H; rw [hy255]; with_reducible exact H2_) | (have H2_ := (Option.bind_some _ _).symm.trans H; with_reducible exact H2_) | with_reducible exact H | (rw [hy255]; exact H) | exact H
 have Ny255 := Aside0.mk hy255; clear hy255
 obtain rfl := Option.some.inj H
 go_enter Try.func161, Try.ntmps161
 go_wp2_with (first | ((with_reducible refine gate_dst (N := 14) rfl ?_); refine Kd.R_lit (Kd.int .u8) _ 5 ?hg (N := 14) ?hd (xs := ([(a0 / 16777216) % 256, (a0 / 65536) % 256, (a0 / 256) % 256, (a0) % 256] : List Int)) (inner := [.int .u8 ((a0 / 16777216) % 256), .int .u8 ((a0 / 65536) % 256), .int .u8 ((a0 / 256) % 256), .int .u8 ((a0) % 256)]) (ok := fun _ => True) (okp := fun _ => True) ?hr ?hp (fun _ hk => hk) trivial (Below.refl _ _) (Nat.le_refl _) (by simp) ?_; (case hd => rfl); (case hg => rfl); (case hr => first | (go_simp; done) | (go_simp; rfl)); (case hp => exact (Reps.one (show Kd.M (Kd.int .u8) _ _ _ ((a0 / 16777216) % 256) [.int .u8 ((a0 / 16777216) % 256)] from rfl) (Reps.one (show Kd.M (Kd.int .u8) _ _ _ ((a0 / 65536) % 256) [.int .u8 ((a0 / 65536) % 256)] from rfl) (Reps.one (show Kd.M (Kd.int .u8) _ _ _ ((a0 / 256) % 256) [.int .u8 ((a0 / 256) % 256)] from rfl) (Reps.one (show Kd.M (Kd.int .u8) _ _ _ ((a0) % 256) [.int .u8 ((a0) % 256)] from rfl) (Reps.none _ _)))))); intro v256 w2 ho3 hb hg_ hnew_; clear hg_ hnew_; (first | rw [← Ny255.out] at ho3 | (simp only [Int.reduceToNat] at ho3; rw [← Ny255.out] at ho3)); have n_ := t2 (Kd.R_lower ho3 (below_size pB)) (below_step pB hb); clear HB; obtain ⟨HO257, HB⟩ := n_; clear hb ho3))
 go_ret
 exact ⟨_, pE, (pR HO257), pB⟩
end Go.Proofs.Ythjlbpgiaehjnaa.QFnExactBlockFault
