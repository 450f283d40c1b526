-- written by this session's program (wip/tools/myprint.py)
import Derived.Test.YthjlbpgiaehjnaaQFnExactBlockRootx0
import Derived.Test.YthjlbpgiaehjnaaQFnExactBlockRootx4
import Derived.Test.YthjlbpgiaehjnaaQFnExactBlockRootx8
-- squeezed
namespace Go.Proofs.Ythjlbpgiaehjnaa.QFnExactBlockRoot
open Go.RowKit Go.Proofs.YthjlbpgiaehjnaaW.PrintWords Go.Proofs.YthjlbpgiaehjnaaW.PrintLast Go.Proofs.YthjlbpgiaehjnaaW.PrintMore
attribute [local go_sem] max2_int min2_int max_two min_two max_three min_three max_four min_four   -- for this text's walks alone
set_option linter.unusedVariables false
set_option linter.unusedSimpArgs false
set_option maxHeartbeats 8000000
set_option maxRecDepth 100000
def spec_l3Pack.f (k : Nat) (a0_0 : Int) (l0_1 : List (S34)) (l0_2 : List (S86)) (a1 : Bool) : Option (List Int) := spec_l3Pack_in.f k [(⟨a0_0, l0_1, l0_2⟩ : S27)] a1
theorem spec_l3Pack.mono : ∀ (a0_0 : Int) (l0_1 : List (S34)) (l0_2 : List (S86)) (a1 : Bool) (k : Nat), LeO (spec_l3Pack.f k a0_0 l0_1 l0_2 a1) (spec_l3Pack.f (k + 1) a0_0 l0_1 l0_2 a1) := fun a0_0 l0_1 l0_2 a1 k => spec_l3Pack_in.mono [(⟨a0_0, l0_1, l0_2⟩ : S27)] a1 k
set_option maxHeartbeats 8000000 in
theorem spec_l3Pack.calls (k : Nat) (a0_0 : Int) (A0_1 : Option Addr) (c0_1 : Nat) (l0_1 : List (S34)) (A0_2 : Option Addr) (c0_2 : Nat) (l0_2 : List (S86)) (a1 : Bool) (r : List Int) (w : World) (hr0_1 : Kd.C k34 w A0_1 l0_1.length l0_1) (hc0_1 : l0_1.length ≤ c0_1) (hr0_2 : Kd.C k86 w A0_2 l0_2.length l0_2) (hc0_2 : l0_2.length ≤ c0_2) (h : spec_l3Pack.f k a0_0 l0_1 l0_2 a1 = some r) {pp0 : Addr} (hpp0_0 : w.cell? pp0 = some (.int .i64 a0_0)) (hpp0_1 : w.cell? ⟨pp0.block, pp0.off + 1, none⟩ = some (.slice A0_1 l0_1.length c0_1)) (hpp0_2 : w.cell? ⟨pp0.block, pp0.off + 2, none⟩ = some (.slice A0_2 l0_2.length c0_2)) :
 Calls Try.prog 71 #[.pointer (some pp0), .bool a1] w fun e w' => ∃ v0_ : Value, e = .returned (v0_) ∧ Kd.R (Kd.int .u8) 5 w' w.heap.size (fun _ => True) v0_ r ∧ Below w.heap.size w w' := by
 have o0 : Kd.C k27 w (some pp0) 1 [(⟨a0_0, l0_1, l0_2⟩ : S27)] := by
  refine ⟨rfl, by decide, fun _ => ⟨pp0, rfl, fun j p hj => ?_⟩⟩
  cases j with
  | succ j => simp at hj
  | zero =>
   obtain rfl : (⟨a0_0, l0_1, l0_2⟩ : S27) = p := by simpa using hj
   refine ⟨_, rfl, k27_mk w _ hc0_1 hr0_1 hc0_2 hr0_2, fun i u hu => ?_⟩
   match i, hu with
   | 0, hu => obtain rfl := sj hu; exact hpp0_0
   | 1, hu => obtain rfl := sj hu; exact hpp0_1
   | 2, hu => obtain rfl := sj hu; exact hpp0_2
 exact spec_l3Pack_in.calls k (some pp0) 1 [(⟨a0_0, l0_1, l0_2⟩ : S27)] a1 r w o0 (Nat.le_refl 1) h
def spec_l1Sum.l0 : Nat → List Int → Int → Int → Option (Int)
 | 0, _, _, _ => none
 | k + 1, x0, x3, x4 => if x4 < (x0.length : Int) then (if 0 ≤ x4 then (spec_l1Sum.l0 k x0 (Int.tmod (wrap64 ((wrap64 ((wrap64 (x3 * 33)) + (wrap64 (rd x0 x4)))) + 1)) 2147483647) (wrap64 (x4 + 1))) else (none)) else (some x3)
def spec_l1Sum.f (k : Nat) (l0 : List Int) : Option (Int) := spec_l1Sum.l0 k l0 5381 0
theorem spec_l1Sum.mono_l : ∀ k, (∀ y0 y1 y2, LeO (spec_l1Sum.l0 k y0 y1 y2) (spec_l1Sum.l0 (k + 1) y0 y1 y2))
 | 0 => fun _ _ _ r h => by simp [spec_l1Sum.l0] at h
 | k + 1 => by
  have ih0 := spec_l1Sum.mono_l k
  · intro y0 y1 y2
    unfold spec_l1Sum.l0
    repeat' with_reducible first | exact ih0 _ _ _ | exact LeO.refl _ | exact LeO.none _ | refine LeO.ite ?_ ?_ | refine LeO.bind ?_ (fun _ => ?_)
theorem spec_l1Sum.mono : ∀ a0 k, LeO (spec_l1Sum.f k a0) (spec_l1Sum.f (k + 1) a0) := by
 intro a0 k
 have ih0 := spec_l1Sum.mono_l k
 unfold spec_l1Sum.f
 repeat' with_reducible first | exact ih0 _ _ _ | exact LeO.refl _ | exact LeO.none _ | refine LeO.ite ?_ ?_ | refine LeO.bind ?_ (fun _ => ?_)
theorem spec_l1Sum.calls (k : Nat) (A0 : Option Addr) (c0 : Nat) (l0 : List Int) (r : Int) (w : World) (hr0 : Kd.C (Kd.int .u8) w A0 l0.length l0) (hc0 : l0.length ≤ c0) (h : spec_l1Sum.f k l0 = some r) :
 Calls Try.prog 103 #[.slice A0 l0.length c0] w fun e w' => e = .returned (.int .i64 r) ∧ Drawn0 w w' := by
 have HR0 := am hr0; have HC0 := am hc0; clear hr0 hc0
 have H : (spec_l1Sum.l0 k l0 5381 0) = some r := h
 clear h
 have H' := am H
 clear H
 go_enter Try.func103, Try.ntmps103
 go_wp2
 go_loopg [3, 4] k (fun kq v3 v4 w' => ∃ (x3_1 : Int) (x4_1 : Int), v3 = .int .i64 x3_1 ∧ v4 = .int .i64 x4_1 ∧ Aside0 (spec_l1Sum.l0 kq l0 x3_1 x4_1 = some r) ∧ Aside0 (kq ≤ k) ∧ Drawn0 w w')
 case atStart => exact ⟨(5381), (0), pF, pF, H', ⟨Nat.le_refl _⟩, pW⟩
 case round =>
  clear H'
  obtain ⟨x3_1, x4_1, rfl, rfl, HA, HK1, ⟨m1, rfl⟩⟩ := hrel
  cases gk with
  | zero => exact absurd HA.out (by simp [spec_l1Sum.l0])
  | succ k1 =>
   have H := HA.out
   clear HA
   simp only [spec_l1Sum.l0] at H
   by_cases c2 : x4_1 < (l0.length : Int)
   · rw [if_pos c2] at H
     have c2b0 : decide (x4_1 < (l0.length : Int)) = true := dt c2
     clear c2
     by_cases c3 : 0 ≤ x4_1
     · rw [if_pos c3] at H
       have c3b0 : decide (0 ≤ x4_1) = true := dt c3
       clear c3
       have H' := am H
       clear H
       have p323 : 0 ≤ (x4_1 : Int) := pD
       have q323 : x4_1 < (l0.length : Int) := pD
       obtain ⟨ad323, e323, hx323_0⟩ := Kd.at_int HR0.out x4_1 p323 q323
       cases e323; replace p323 := eq_true p323; replace q323 := eq_true q323
       go_wp2
       go_roundg k1
       case measure => have := HK1.out; omega
       case rel => exact ⟨(Int.tmod (wrap64 ((wrap64 ((wrap64 (x3_1 * 33)) + (wrap64 (rd l0 x4_1)))) + 1)) 2147483647), (wrap64 (x4_1 + 1)), pF, pF, H', ⟨by have := HK1.out; omega⟩, pW⟩
     · rw [if_neg c3] at H
       exact absurd H (by simp)
   · rw [if_neg c2] at H
     have c2b0 : decide (x4_1 < (l0.length : Int)) = false := decide_eq_false c2
     clear c2
     obtain rfl := sj H
     go_wp2
     go_ret
     exact ⟨by first | rfl | (simp; done) | (simp [*]; done), pW⟩
def spec_l3Sum_in.f (k : Nat) (l0 : List (S27)) : Option (Int) := if 0 < (l0.length : Int) then ((spec_l3Pack.f k ((rd_T27 l0 0).f0) ((rd_T27 l0 0).f1) ((rd_T27 l0 0).f2) false).bind fun t325 => ((spec_l1Sum.f k t325).bind fun t328 => (some t328))) else (none)
theorem spec_l3Sum_in.mono : ∀ a0 k, LeO (spec_l3Sum_in.f k a0) (spec_l3Sum_in.f (k + 1) a0) := by
 intro a0 k
 unfold spec_l3Sum_in.f
 repeat' with_reducible first | exact spec_l1Sum.mono _ _ | exact spec_l3Pack.mono _ _ _ _ _ | exact LeO.refl _ | exact LeO.none _ | refine LeO.ite ?_ ?_ | refine LeO.bind ?_ (fun _ => ?_)
theorem spec_l3Sum_in.calls (k : Nat) (A0 : Option Addr) (c0 : Nat) (l0 : List (S27)) (r : Int) (w : World) (hr0 : Kd.C k27 w A0 l0.length l0) (hc0 : l0.length ≤ c0) (h : spec_l3Sum_in.f k l0 = some r) :
 Calls Try.prog 54 #[.pointer A0] w fun e w' => e = .returned (.int .i64 r) ∧ Below w.heap.size w w' := by
 have hu27 := Try.underlying27
 have HR0 := am hr0; have HC0 := am hc0; clear hr0 hc0
 have HB := am (Below.refl w.heap.size w)
 have H : (if 0 < (l0.length : Int) then ((spec_l3Pack.f k ((rd_T27 l0 0).f0) ((rd_T27 l0 0).f1) ((rd_T27 l0 0).f2) false).bind fun t325 => ((spec_l1Sum.f k t325).bind fun t328 => (some t328))) else (none)) = some r := h
 clear h
 by_cases c2 : 0 < (l0.length : Int)
 · rw [if_pos c2] at H
   have c2b0 : decide (0 < (l0.length : Int)) = true := dt c2
   have c2b1 : decide (0 < l0.length) = true := dt (by omega)
   clear c2
   obtain ⟨t325, A30, H⟩ := bO H
   replace H : ((spec_l1Sum.f k t325).bind fun t328 => (some t328)) = some r := H
   have A3 := am A30; clear A30
   obtain ⟨t328, A40, H⟩ := bO H
   replace H : (some t328) = some r := H
   have A4 := am A40; clear A40
   obtain rfl := sj H
   have p324 : 0 ≤ (0 : Int) := (by omega)
   have q324 : 0 < (l0.length : Int) := pD
   obtain ⟨ad324, A324_1, c324_1, A324_2, c324_2, e324, hx324_0, hx324_1, hx324_2, hl324_1, hi324_1, hl324_2, hi324_2⟩ := at_T27 HR0.out 0 p324 q324
   cases e324
   have qi324 : (0 < l0.length) = True := eq_true (by omega)
   (try rw [z0, zm, az] at hx324_0); (try rw [z0, zm, az] at hx324_1); (try rw [z0, zm, az] at hx324_2); have HR324_1 := am hi324_1; have HC324_1 := am hl324_1; clear hi324_1 hl324_1; have HR324_2 := am hi324_2; have HC324_2 := am hl324_2; clear hi324_2 hl324_2; replace p324 := eq_true p324; replace q324 := eq_true q324
   go_enter Try.func54, Try.ntmps54
   go_wp2_with (first | ((with_reducible refine gC (f := 71) rfl ?_); refine goesL_ (some 4) rfl rfl Try.func71 (by kernel_rfl) rfl #[.pointer (some _), .bool false] rfl pA ?_; (refine Calls.mono (spec_l3Pack.calls k ((rd_T27 l0 0).f0) _ _ ((rd_T27 l0 0).f1) _ _ ((rd_T27 l0 0).f2) false t325 _ ?side1 ?side2 ?side3 ?side4 A3.out (hpp0_0 := by first | (with_unfolding_all assumption) | (dsimp only; assumption) | (dsimp only [Nat.zero_add]; exact (blk_cell (Aside0.out (by assumption)) _).trans rfl) | (go_simp; done)) (hpp0_1 := by first | (with_unfolding_all assumption) | (dsimp only; assumption) | (dsimp only [Nat.zero_add]; exact (blk_cell (Aside0.out (by assumption)) _).trans rfl) | (go_simp; done)) (hpp0_2 := by first | (with_unfolding_all assumption) | (dsimp only; assumption) | (dsimp only [Nat.zero_add]; exact (blk_cell (Aside0.out (by assumption)) _).trans rfl) | (go_simp; done))) ?_); (case side1 => exact pC HR324_1.out); (case side2 => exact HC324_1.out); (case side3 => exact pC HR324_2.out); (case side4 => exact HC324_2.out); rintro e w5 ⟨v326, rfl, ho0, hb⟩; refine ⟨_, rfl, ?_⟩; have n_ := t2 (rL ho0 (bs_ pB)) (bz_ pB hb); clear HB; obtain ⟨HO327, HB⟩ := n_; (try clear hb); (try clear ho0); obtain ⟨Ao6, co6, eo6⟩ := rS HO327.out; subst eo6) | ((with_reducible refine gC (f := 103) rfl ?_); refine goesL_ (some 5) rfl rfl Try.func103 (by kernel_rfl) rfl #[.slice Ao6 t325.length co6] rfl pA ?_; (with_reducible refine (spec_l1Sum.calls k _ _ t325 t328 _ ?side1 ?side2 A4.out).mono ?_); (case side1 => exact pC (rr HO327.out).2.2); (case side2 => exact (rr HO327.out).2.1); rintro e w' ⟨rfl, ⟨nd, rfl⟩⟩; refine ⟨_, rfl, ?_⟩))
   go_ret
   exact ⟨pE, pB⟩
 · rw [if_neg c2] at H
   exact absurd H (by simp)
def spec_l3Sum.f (k : Nat) (a0_0 : Int) (l0_1 : List (S34)) (l0_2 : List (S86)) : Option (Int) := spec_l3Sum_in.f k [(⟨a0_0, l0_1, l0_2⟩ : S27)]
theorem spec_l3Sum.mono : ∀ (a0_0 : Int) (l0_1 : List (S34)) (l0_2 : List (S86)) (k : Nat), LeO (spec_l3Sum.f k a0_0 l0_1 l0_2) (spec_l3Sum.f (k + 1) a0_0 l0_1 l0_2) := fun a0_0 l0_1 l0_2 k => spec_l3Sum_in.mono [(⟨a0_0, l0_1, l0_2⟩ : S27)] k
set_option maxHeartbeats 8000000 in
theorem spec_l3Sum.calls (k : Nat) (a0_0 : Int) (A0_1 : Option Addr) (c0_1 : Nat) (l0_1 : List (S34)) (A0_2 : Option Addr) (c0_2 : Nat) (l0_2 : List (S86)) (r : Int) (w : World) (hr0_1 : Kd.C k34 w A0_1 l0_1.length l0_1) (hc0_1 : l0_1.length ≤ c0_1) (hr0_2 : Kd.C k86 w A0_2 l0_2.length l0_2) (hc0_2 : l0_2.length ≤ c0_2) (h : spec_l3Sum.f k a0_0 l0_1 l0_2 = some r) {pp0 : Addr} (hpp0_0 : w.cell? pp0 = some (.int .i64 a0_0)) (hpp0_1 : w.cell? ⟨pp0.block, pp0.off + 1, none⟩ = some (.slice A0_1 l0_1.length c0_1)) (hpp0_2 : w.cell? ⟨pp0.block, pp0.off + 2, none⟩ = some (.slice A0_2 l0_2.length c0_2)) :
 Calls Try.prog 54 #[.pointer (some pp0)] w fun e w' => e = .returned (.int .i64 r) ∧ Below w.heap.size w w' := by
 have o0 : Kd.C k27 w (some pp0) 1 [(⟨a0_0, l0_1, l0_2⟩ : S27)] := by
  refine ⟨rfl, by decide, fun _ => ⟨pp0, rfl, fun j p hj => ?_⟩⟩
  cases j with
  | succ j => simp at hj
  | zero =>
   obtain rfl : (⟨a0_0, l0_1, l0_2⟩ : S27) = p := by simpa using hj
   refine ⟨_, rfl, k27_mk w _ hc0_1 hr0_1 hc0_2 hr0_2, fun i u hu => ?_⟩
   match i, hu with
   | 0, hu => obtain rfl := sj hu; exact hpp0_0
   | 1, hu => obtain rfl := sj hu; exact hpp0_1
   | 2, hu => obtain rfl := sj hu; exact hpp0_2
 exact spec_l3Sum_in.calls k (some pp0) 1 [(⟨a0_0, l0_1, l0_2⟩ : S27)] r w o0 (Nat.le_refl 1) h
def spec_l6Sums_in.l0 : Nat → List (S72) → List Int → Int → Option (List Int)
 | 0, _, _, _ => none
 | k + 1, x0, x3, x4 => if 0 < (x0.length : Int) then (if x4 < (((rd_T72 x0 0).f4).length : Int) then (if 0 ≤ x4 then ((spec_l3Sum.f k ((rd_T27 ((rd_T72 x0 0).f4) x4).f0) ((rd_T27 ((rd_T72 x0 0).f4) x4).f1) ((rd_T27 ((rd_T72 x0 0).f4) x4).f2)).bind fun t335 => (if x3.length < 17592186044416 then (spec_l6Sums_in.l0 k x0 (x3 ++ [t335]) (wrap64 (x4 + 1))) else (none))) else (none)) else (some x3)) else (none)
def spec_l6Sums_in.f (k : Nat) (l0 : List (S72)) : Option (List Int) := spec_l6Sums_in.l0 k l0 (([] : List Int)) 0
theorem spec_l6Sums_in.mono_l : ∀ k, (∀ y0 y1 y2, LeO (spec_l6Sums_in.l0 k y0 y1 y2) (spec_l6Sums_in.l0 (k + 1) y0 y1 y2))
 | 0 => fun _ _ _ r h => by simp [spec_l6Sums_in.l0] at h
 | k + 1 => by
  have ih0 := spec_l6Sums_in.mono_l k
  · intro y0 y1 y2
    unfold spec_l6Sums_in.l0
    repeat' with_reducible first | exact ih0 _ _ _ | exact spec_l3Sum.mono _ _ _ _ | exact LeO.refl _ | exact LeO.none _ | refine LeO.ite ?_ ?_ | refine LeO.bind ?_ (fun _ => ?_)
theorem spec_l6Sums_in.mono : ∀ a0 k, LeO (spec_l6Sums_in.f k a0) (spec_l6Sums_in.f (k + 1) a0) := by
 intro a0 k
 have ih0 := spec_l6Sums_in.mono_l k
 unfold spec_l6Sums_in.f
 repeat' with_reducible first | exact ih0 _ _ _ | exact spec_l3Sum.mono _ _ _ _ | exact LeO.refl _ | exact LeO.none _ | refine LeO.ite ?_ ?_ | refine LeO.bind ?_ (fun _ => ?_)
theorem spec_l6Sums_in.calls (k : Nat) (A0 : Option Addr) (c0 : Nat) (l0 : List (S72)) (r : List Int) (w : World) (hr0 : Kd.C k72 w A0 l0.length l0) (hc0 : l0.length ≤ c0) (h : spec_l6Sums_in.f k l0 = some r) :
 Calls Try.prog 98 #[.pointer A0] w fun e w' => ∃ v0_ : Value, e = .returned (v0_) ∧ Kd.R (Kd.int .i64) 2 w' w.heap.size (fun _ => True) v0_ r ∧ Below w.heap.size w w' := by
 have hu27 := Try.underlying27
 have HR0 := am hr0; have HC0 := am hc0; clear hr0 hc0
 have HB := am (Below.refl w.heap.size w)
 have H : (spec_l6Sums_in.l0 k l0 (([] : List Int)) 0) = some r := h
 clear h
 obtain ⟨y329, hy329⟩ : ∃ y_ : List Int, y_ = (([] : List Int)) := ⟨_, rfl⟩
 replace H : (spec_l6Sums_in.l0 k l0 y329 0) = some r := by first | (rw [hy329]; with_reducible exact H) | (have H2_ := (Option.bind_some _ _).symm.trans H; rw [hy329]; with_reducible exact H2_) | (have H2_ := (Option.bind_some _ _).symm.trans H; with_reducible exact H2_) | with_reducible exact H | (rw [hy329]; exact H) | exact H
 have Ny329 := am hy329; clear hy329
 have H' := am H
 clear H
 go_enter Try.func98, Try.ntmps98
 go_wp2_with (first | ((with_reducible refine gate_dst (N := 5) rfl ?_); refine Kd.R_lit (Kd.int .i64) _ 2 ?hg (N := 5) ?hd (xs := ([] : List Int)) (inner := []) (ok := fun _ => True) (okp := fun _ => True) ?hr ?hp (fun _ hk => hk) trivial (Below.refl _ _) (Nat.le_refl _) (by simp) ?_; (case hd => rfl); (case hg => rfl); (case hr => first | (go_simp; done) | (go_simp; rfl)); (case hp => exact (Reps.none _ _)); intro v330 w2 ho3 hb hg_ hnew_; clear hg_ hnew_; (first | rw [← Ny329.out] at ho3 | (simp only [Int.reduceToNat] at ho3; rw [← Ny329.out] at ho3)); have n_ := t2 (rL ho3 (bs_ pB)) (bz_ pB hb); clear HB; obtain ⟨HO331, HB⟩ := n_; clear hb ho3))
 go_loopg [3, 4] k (fun kq v3 v4 w' => ∃ (x3_1 : List Int) (x4_1 : Int), v4 = .int .i64 x4_1 ∧ Aside0 (spec_l6Sums_in.l0 kq l0 x3_1 x4_1 = some r) ∧ Aside0 (kq ≤ k) ∧ Aside0 (Kd.R (Kd.int .i64) 2 w' w.heap.size (fun _ => True) v3 x3_1) ∧ Aside0 (Below w.heap.size w w'))
 case atStart => exact ⟨(y329), (0), pF, H', ⟨Nat.le_refl _⟩, ⟨(pR HO331)⟩, ⟨pB⟩⟩
 case round =>
  clear H'
  obtain ⟨x3_1, x4_1, rfl, HA, HK1, HO_3, HB⟩ := hrel
  cases gk with
  | zero => exact absurd HA.out (by simp [spec_l6Sums_in.l0])
  | succ k1 =>
   have H := HA.out
   clear HA
   simp only [spec_l6Sums_in.l0] at H
   by_cases c4 : 0 < (l0.length : Int)
   · rw [if_pos c4] at H
     have c4b0 : decide (0 < (l0.length : Int)) = true := dt c4
     have c4b1 : decide (0 < l0.length) = true := dt (by omega)
     clear c4
     by_cases c5 : x4_1 < (((rd_T72 l0 0).f4).length : Int)
     · rw [if_pos c5] at H
       have c5b0 : decide (x4_1 < (((rd_T72 l0 0).f4).length : Int)) = true := dt c5
       clear c5
       by_cases c6 : 0 ≤ x4_1
       · rw [if_pos c6] at H
         have c6b0 : decide (0 ≤ x4_1) = true := dt c6
         clear c6
         obtain ⟨t335, A70, H⟩ := bO H
         replace H : (if x3_1.length < 17592186044416 then (spec_l6Sums_in.l0 k1 l0 (x3_1 ++ [t335]) (wrap64 (x4_1 + 1))) else (none)) = some r := H
         have A7 := am A70; clear A70
         by_cases c8 : x3_1.length < 17592186044416
         · rw [if_pos c8] at H
           have LMc8 := am c8; clear c8
           obtain ⟨y336, hy336⟩ : ∃ y_ : List Int, y_ = (x3_1 ++ [t335]) := ⟨_, rfl⟩
           replace H : (spec_l6Sums_in.l0 k1 l0 y336 (wrap64 (x4_1 + 1))) = some r := by first | (rw [hy336]; with_reducible exact H) | (have H2_ := (Option.bind_some _ _).symm.trans H; rw [hy336]; with_reducible exact H2_) | (have H2_ := (Option.bind_some _ _).symm.trans H; with_reducible exact H2_) | with_reducible exact H | (rw [hy336]; exact H) | exact H
           have Ny336 := am hy336; clear hy336
           have H' := am H
           clear H
           have p332 : 0 ≤ (0 : Int) := (by omega)
           have q332 : 0 < (l0.length : Int) := pD
           obtain ⟨ad332, A332_4, c332_4, e332, hx332_0, hx332_1, hx332_2, hx332_3, hx332_4, hl332_4, hi332_4⟩ := at_T72 HR0.out 0 p332 q332
           cases e332
           have qi332 : (0 < l0.length) = True := eq_true (by omega)
           (try rw [z0, zm, az] at hx332_0); (try rw [z0, zm, az] at hx332_1); (try rw [z0, zm, az] at hx332_2); (try rw [z0, zm, az] at hx332_3); (try rw [z0, zm, az] at hx332_4); replace hx332_0 := cb HB hx332_0; replace hx332_1 := cb HB hx332_1; replace hx332_2 := cb HB hx332_2; replace hx332_3 := cb HB hx332_3; replace hx332_4 := cb HB hx332_4; have HR332_4 := am hi332_4; have HC332_4 := am hl332_4; clear hi332_4 hl332_4; replace p332 := eq_true p332; replace q332 := eq_true q332
           have p333 : 0 ≤ (0 : Int) := (by omega)
           have q333 : 0 < (l0.length : Int) := pD
           (try clear hx332_0); (try clear hx332_1); (try clear hx332_2); (try clear hx332_3); (try clear hHeld)
           obtain ⟨ad333, A333_4, c333_4, e333, hx333_0, hx333_1, hx333_2, hx333_3, hx333_4, hl333_4, hi333_4⟩ := at_T72 HR0.out 0 p333 q333
           obtain rfl : ad332 = ad333 := (by injection e333)
           have qi333 : (0 < l0.length) = True := eq_true (by omega)
           (try rw [z0, zm, az] at hx333_0); (try rw [z0, zm, az] at hx333_1); (try rw [z0, zm, az] at hx333_2); (try rw [z0, zm, az] at hx333_3); (try rw [z0, zm, az] at hx333_4); replace hx333_0 := cb HB hx333_0; replace hx333_1 := cb HB hx333_1; replace hx333_2 := cb HB hx333_2; replace hx333_3 := cb HB hx333_3; replace hx333_4 := cb HB hx333_4; have HR333_4 := am hi333_4; have HC333_4 := am hl333_4; clear hi333_4 hl333_4; replace p333 := eq_true p333; replace q333 := eq_true q333
           have ea_ := sj (hx332_4.symm.trans hx333_4)
           injection ea_ with ea_ en_ ec_
           subst ea_; subst ec_; clear en_
           have p334 : 0 ≤ (x4_1 : Int) := pD
           have q334 : x4_1 < (((rd_T72 l0 0).f4).length : Int) := pD
           obtain ⟨ad334, A334_1, c334_1, A334_2, c334_2, e334, hx334_0, hx334_1, hx334_2, hl334_1, hi334_1, hl334_2, hi334_2⟩ := at_T27 HR333_4.out x4_1 p334 q334
           cases e334; replace hx334_0 := cb HB hx334_0; replace hx334_1 := cb HB hx334_1; replace hx334_2 := cb HB hx334_2; have HR334_1 := am hi334_1; have HC334_1 := am hl334_1; clear hi334_1 hl334_1; have HR334_2 := am hi334_2; have HC334_2 := am hl334_2; clear hi334_2 hl334_2; replace p334 := eq_true p334; replace q334 := eq_true q334
           go_wp2_with (first | ((with_reducible refine gC (f := 54) rfl ?_); refine goesL_ (some 22) rfl rfl Try.func54 (by kernel_rfl) rfl #[.pointer (some _)] rfl pA ?_; (refine Calls.mono (spec_l3Sum.calls k1 ((rd_T27 ((rd_T72 l0 0).f4) x4_1).f0) _ _ ((rd_T27 ((rd_T72 l0 0).f4) x4_1).f1) _ _ ((rd_T27 ((rd_T72 l0 0).f4) x4_1).f2) t335 _ ?side1 ?side2 ?side3 ?side4 A7.out (hpp0_0 := by first | (with_unfolding_all assumption) | (dsimp only; assumption) | (dsimp only [Nat.zero_add]; exact (blk_cell (Aside0.out (by assumption)) _).trans rfl) | (go_simp; done)) (hpp0_1 := by first | (with_unfolding_all assumption) | (dsimp only; assumption) | (dsimp only [Nat.zero_add]; exact (blk_cell (Aside0.out (by assumption)) _).trans rfl) | (go_simp; done)) (hpp0_2 := by first | (with_unfolding_all assumption) | (dsimp only; assumption) | (dsimp only [Nat.zero_add]; exact (blk_cell (Aside0.out (by assumption)) _).trans rfl) | (go_simp; done))) ?_); (case side1 => exact pC (Kd.C_below HR334_1.out HB.out)); (case side2 => exact HC334_1.out); (case side3 => exact pC (Kd.C_below HR334_2.out HB.out)); (case side4 => exact HC334_2.out); rintro e w9 ⟨rfl, hb⟩; refine ⟨_, rfl, ?_⟩; have n_ := t2 (Kd.R_below (pR HO_3) hb) (bz_ pB hb); clear HO_3 HB; obtain ⟨HO_3, HB⟩ := n_; (try clear hb)) | ((with_reducible refine gB (b := .append) (xs := #[.tmp 15, .tmp 23]) rfl ?_); at_builtin; refine Kd.R_append (Kd.int .i64) (w0 := w) w.heap.size rfl (.tmp 15) (.tmp 23) 32 2 (.int .i64 0) 8 rfl Try.underlying32 info2 rfl (by decide) (by omega) u3 x3_1 t335 [.int .i64 t335] (fun _ => True) (fun _ => False) rfl rfl ?aP (fun _ hk => hk.elim) ?aF ?aO ?aB ?aS ?aL ?_; (case aP => exact rfl); (case aB => exact pB); (case aF => exact (fun _ _ => trivial)); (case aO => exact (pR HO_3)); (case aS => exact (bs_ pB)); (case aL => have := LMc8.out; omega); intro v337 w10 ho hb hg hat; rw [← Ny336.out] at ho; have n_ := t2 (hb) (ho); clear HB HO_3; obtain ⟨HB, HO338⟩ := n_; clear ho hb hg hat))
           go_roundg k1
           case measure => have := HK1.out; omega
           case rel => exact ⟨(y336), (wrap64 (x4_1 + 1)), pF, H', ⟨by have := HK1.out; omega⟩, ⟨(pR HO338)⟩, ⟨pB⟩⟩
         · rw [if_neg c8] at H
           exact absurd H (by simp)
       · rw [if_neg c6] at H
         exact absurd H (by simp)
     · rw [if_neg c5] at H
       have c5b0 : decide (x4_1 < (((rd_T72 l0 0).f4).length : Int)) = false := decide_eq_false c5
       clear c5
       obtain rfl := sj H
       have p332 : 0 ≤ (0 : Int) := (by omega)
       have q332 : 0 < (l0.length : Int) := pD
       obtain ⟨ad332, A332_4, c332_4, e332, hx332_0, hx332_1, hx332_2, hx332_3, hx332_4, hl332_4, hi332_4⟩ := at_T72 HR0.out 0 p332 q332
       cases e332
       have qi332 : (0 < l0.length) = True := eq_true (by omega)
       (try rw [z0, zm, az] at hx332_0); (try rw [z0, zm, az] at hx332_1); (try rw [z0, zm, az] at hx332_2); (try rw [z0, zm, az] at hx332_3); (try rw [z0, zm, az] at hx332_4); replace hx332_0 := cb HB hx332_0; replace hx332_1 := cb HB hx332_1; replace hx332_2 := cb HB hx332_2; replace hx332_3 := cb HB hx332_3; replace hx332_4 := cb HB hx332_4; have HR332_4 := am hi332_4; have HC332_4 := am hl332_4; clear hi332_4 hl332_4; replace p332 := eq_true p332; replace q332 := eq_true q332
       go_wp2
       go_ret
       exact ⟨_, pE, (pR HO_3), pB⟩
   · rw [if_neg c4] at H
     exact absurd H (by simp)
def spec_l6Sums.f (k : Nat) (a0_0 : Int) (a0_1 : Int) (a0_2 : Int) (a0_3 : Int) (l0_4 : List (S27)) : Option (List Int) := spec_l6Sums_in.f k [(⟨a0_0, a0_1, a0_2, a0_3, l0_4⟩ : S72)]
theorem spec_l6Sums.mono : ∀ (a0_0 : Int) (a0_1 : Int) (a0_2 : Int) (a0_3 : Int) (l0_4 : List (S27)) (k : Nat), LeO (spec_l6Sums.f k a0_0 a0_1 a0_2 a0_3 l0_4) (spec_l6Sums.f (k + 1) a0_0 a0_1 a0_2 a0_3 l0_4) := fun a0_0 a0_1 a0_2 a0_3 l0_4 k => spec_l6Sums_in.mono [(⟨a0_0, a0_1, a0_2, a0_3, l0_4⟩ : S72)] k
set_option maxHeartbeats 8000000 in
theorem spec_l6Sums.calls (k : Nat) (a0_0 : Int) (a0_1 : Int) (a0_2 : Int) (a0_3 : Int) (A0_4 : Option Addr) (c0_4 : Nat) (l0_4 : List (S27)) (r : List Int) (w : World) (hr0_4 : Kd.C k27 w A0_4 l0_4.length l0_4) (hc0_4 : l0_4.length ≤ c0_4) (h : spec_l6Sums.f k a0_0 a0_1 a0_2 a0_3 l0_4 = some r) {pp0 : Addr} (hpp0_0 : w.cell? pp0 = some (.int .i64 a0_0)) (hpp0_1 : w.cell? ⟨pp0.block, pp0.off + 1, none⟩ = some (.int .i64 a0_1)) (hpp0_2 : w.cell? ⟨pp0.block, pp0.off + 2, none⟩ = some (.int .i64 a0_2)) (hpp0_3 : w.cell? ⟨pp0.block, pp0.off + 3, none⟩ = some (.int .i64 a0_3)) (hpp0_4 : w.cell? ⟨pp0.block, pp0.off + 4, none⟩ = some (.slice A0_4 l0_4.length c0_4)) :
 Calls Try.prog 98 #[.pointer (some pp0)] w fun e w' => ∃ v0_ : Value, e = .returned (v0_) ∧ Kd.R (Kd.int .i64) 2 w' w.heap.size (fun _ => True) v0_ r ∧ Below w.heap.size w w' := by
 have o0 : Kd.C k72 w (some pp0) 1 [(⟨a0_0, a0_1, a0_2, a0_3, l0_4⟩ : S72)] := by
  refine ⟨rfl, by decide, fun _ => ⟨pp0, rfl, fun j p hj => ?_⟩⟩
  cases j with
  | succ j => simp at hj
  | zero =>
   obtain rfl : (⟨a0_0, a0_1, a0_2, a0_3, l0_4⟩ : S72) = p := by simpa using hj
   refine ⟨_, rfl, k72_mk w _ hc0_4 hr0_4, fun i u hu => ?_⟩
   match i, hu with
   | 0, hu => obtain rfl := sj hu; exact hpp0_0
   | 1, hu => obtain rfl := sj hu; exact hpp0_1
   | 2, hu => obtain rfl := sj hu; exact hpp0_2
   | 3, hu => obtain rfl := sj hu; exact hpp0_3
   | 4, hu => obtain rfl := sj hu; exact hpp0_4
 exact spec_l6Sums_in.calls k (some pp0) 1 [(⟨a0_0, a0_1, a0_2, a0_3, l0_4⟩ : S72)] r w o0 (Nat.le_refl 1) h
def spec_l4Sum.f (a0 : Int) : Option (Bool) := (spec_l1In.f a0 0 2147483646).bind fun t339 => (some t339)
theorem spec_l4Sum.calls (a0 : Int) (r : Bool) (w : World) (h : spec_l4Sum.f a0 = some r) :
 Calls Try.prog 130 #[.int .i64 a0] w fun e w' => e = .returned (.bool r) ∧ Drawn0 w w' := by
 have H : ((spec_l1In.f a0 0 2147483646).bind fun t339 => (some t339)) = some r := h
 clear h
 obtain ⟨t339, A20, H⟩ := bO H
 replace H : (some t339) = some r := H
 have A2 := am A20; clear A20
 obtain rfl := sj H
 go_enter Try.func130, Try.ntmps130
 go_wp2_with (first | ((with_reducible refine gC (f := 81) rfl ?_); refine goesL_ (some 4) rfl rfl Try.func81 (by kernel_rfl) rfl #[.int .i64 a0, .int .i64 0, .int .i64 2147483646] rfl pA ?_; (with_reducible refine (spec_l1In.calls a0 0 2147483646 t339 _ A2.out).mono ?_); rintro e w' ⟨rfl, ⟨nd, rfl⟩⟩; refine ⟨_, rfl, ?_⟩))
 go_ret
 exact ⟨by first | rfl | (simp; done) | (simp [*]; done), pW⟩
def spec_l1Bits.f (a0 : Int) : Option (Bool) := (spec_l1In.f a0 1 1023).bind fun t340 => (if t340 = true then (some (decide ((Int.tmod a0 256) > 0))) else (some false))
theorem spec_l1Bits.calls (a0 : Int) (r : Bool) (w : World) (h : spec_l1Bits.f a0 = some r) :
 Calls Try.prog 131 #[.int .i64 a0] w fun e w' => e = .returned (.bool r) ∧ Drawn0 w w' := by
 have H : ((spec_l1In.f a0 1 1023).bind fun t340 => (if t340 = true then (some (decide ((Int.tmod a0 256) > 0))) else (some false))) = some r := h
 clear h
 obtain ⟨t340, A20, H⟩ := bO H
 replace H : (if t340 = true then (some (decide ((Int.tmod a0 256) > 0))) else (some false)) = some r := H
 have A2 := am A20; clear A20
 by_cases c3 : t340 = true
 · subst c3
   have H1 : (some (decide ((Int.tmod a0 256) > 0))) = some r := by rw [if_pos rfl] at H; exact H
   clear H; have H := H1; clear H1
   obtain rfl := sj H
   go_enter Try.func131, Try.ntmps131
   go_wp2_with (first | ((with_reducible refine gC (f := 81) rfl ?_); refine goesL_ (some 4) rfl rfl Try.func81 (by kernel_rfl) rfl #[.int .i64 a0, .int .i64 1, .int .i64 1023] rfl pA ?_; (with_reducible refine (spec_l1In.calls a0 1 1023 true _ A2.out).mono ?_); rintro e w' ⟨rfl, ⟨nd, rfl⟩⟩; refine ⟨_, rfl, ?_⟩))
   go_ret
   exact ⟨by first | rfl | (simp; done) | (simp [*]; done), pW⟩
 · replace c3 := Bool.eq_false_iff.mpr c3
   subst c3
   have H1 : (some false) = some r := by rw [if_neg (show ¬ (false = true) by decide)] at H; exact H
   clear H; have H := H1; clear H1
   obtain rfl := sj H
   go_enter Try.func131, Try.ntmps131
   go_wp2_with (first | ((with_reducible refine gC (f := 81) rfl ?_); refine goesL_ (some 4) rfl rfl Try.func81 (by kernel_rfl) rfl #[.int .i64 a0, .int .i64 1, .int .i64 1023] rfl pA ?_; (with_reducible refine (spec_l1In.calls a0 1 1023 false _ A2.out).mono ?_); rintro e w' ⟨rfl, ⟨nd, rfl⟩⟩; refine ⟨_, rfl, ?_⟩))
   go_ret
   exact ⟨by first | rfl | (simp; done) | (simp [*]; done), pW⟩
def spec_l6Bases_in.l0 : Nat → List (S72) → Int → Option (Bool)
 | 0, _, _ => none
 | k + 1, x0, x3 => if 0 < (x0.length : Int) then (if x3 < (((rd_T72 x0 0).f4).length : Int) then (if 0 ≤ x3 then (if (((((rd_T27 ((rd_T72 x0 0).f4) x3).f1).length : Int) == 0) != (x3 == 0)) = true then (some false) else (spec_l6Bases_in.l0 k x0 (wrap64 (x3 + 1)))) else (none)) else (some true)) else (none)
def spec_l6Bases_in.f (k : Nat) (l0 : List (S72)) : Option (Bool) := spec_l6Bases_in.l0 k l0 0
theorem spec_l6Bases_in.mono_l : ∀ k, (∀ y0 y1, LeO (spec_l6Bases_in.l0 k y0 y1) (spec_l6Bases_in.l0 (k + 1) y0 y1))
 | 0 => fun _ _ r h => by simp [spec_l6Bases_in.l0] at h
 | k + 1 => by
  have ih0 := spec_l6Bases_in.mono_l k
  · intro y0 y1
    unfold spec_l6Bases_in.l0
    repeat' with_reducible first | exact ih0 _ _ | exact LeO.refl _ | exact LeO.none _ | refine LeO.ite ?_ ?_ | refine LeO.bind ?_ (fun _ => ?_)
theorem spec_l6Bases_in.mono : ∀ a0 k, LeO (spec_l6Bases_in.f k a0) (spec_l6Bases_in.f (k + 1) a0) := by
 intro a0 k
 have ih0 := spec_l6Bases_in.mono_l k
 unfold spec_l6Bases_in.f
 repeat' with_reducible first | exact ih0 _ _ | exact LeO.refl _ | exact LeO.none _ | refine LeO.ite ?_ ?_ | refine LeO.bind ?_ (fun _ => ?_)
theorem spec_l6Bases_in.calls (k : Nat) (A0 : Option Addr) (c0 : Nat) (l0 : List (S72)) (r : Bool) (w : World) (hr0 : Kd.C k72 w A0 l0.length l0) (hc0 : l0.length ≤ c0) (h : spec_l6Bases_in.f k l0 = some r) :
 Calls Try.prog 132 #[.pointer A0] w fun e w' => e = .returned (.bool r) ∧ Below w.heap.size w w' := by
 have HR0 := am hr0; have HC0 := am hc0; clear hr0 hc0
 have HB := am (Below.refl w.heap.size w)
 have H : (spec_l6Bases_in.l0 k l0 0) = some r := h
 clear h
 have H' := am H
 clear H
 go_enter Try.func132, Try.ntmps132
 go_wp2
 go_loopg [3] k (fun kq v3 w' => ∃ (x3_1 : Int), v3 = .int .i64 x3_1 ∧ Aside0 (spec_l6Bases_in.l0 kq l0 x3_1 = some r) ∧ Aside0 (kq ≤ k) ∧ Aside0 (Below w.heap.size w w'))
 case atStart => exact ⟨(0), pF, H', ⟨Nat.le_refl _⟩, ⟨pB⟩⟩
 case round =>
  clear H'
  obtain ⟨x3_1, rfl, HA, HK1, HB⟩ := hrel
  cases gk with
  | zero => exact absurd HA.out (by simp [spec_l6Bases_in.l0])
  | succ k1 =>
   have H := HA.out
   clear HA
   simp only [spec_l6Bases_in.l0] at H
   by_cases c2 : 0 < (l0.length : Int)
   · rw [if_pos c2] at H
     have c2b0 : decide (0 < (l0.length : Int)) = true := dt c2
     have c2b1 : decide (0 < l0.length) = true := dt (by omega)
     clear c2
     by_cases c3 : x3_1 < (((rd_T72 l0 0).f4).length : Int)
     · rw [if_pos c3] at H
       have c3b0 : decide (x3_1 < (((rd_T72 l0 0).f4).length : Int)) = true := dt c3
       clear c3
       by_cases c4 : 0 ≤ x3_1
       · rw [if_pos c4] at H
         have c4b0 : decide (0 ≤ x3_1) = true := dt c4
         clear c4
         by_cases c5 : (((((rd_T27 ((rd_T72 l0 0).f4) x3_1).f1).length : Int) == 0) != (x3_1 == 0)) = true
         · rw [if_pos c5] at H
           have c5b0 : (((((rd_T27 ((rd_T72 l0 0).f4) x3_1).f1).length : Int) == 0) != (x3_1 == 0)) = true := c5
           (try (have c5b1 : decide (((((rd_T27 ((rd_T72 l0 0).f4) x3_1).f1).length : Int) == 0) = (x3_1 == 0)) = false := by simpa using c5))
           (try (have c5b2 : (((((rd_T27 ((rd_T72 l0 0).f4) x3_1).f1).length : Int) == 0) == (x3_1 == 0)) = false := by simpa using c5))
           (try (have c5b3 : ¬ (((((rd_T27 ((rd_T72 l0 0).f4) x3_1).f1).length : Int) == 0) = (x3_1 == 0)) := by simpa using c5))
           clear c5
           obtain rfl := sj H
           have p341 : 0 ≤ (0 : Int) := (by omega)
           have q341 : 0 < (l0.length : Int) := pD
           obtain ⟨ad341, A341_4, c341_4, e341, hx341_0, hx341_1, hx341_2, hx341_3, hx341_4, hl341_4, hi341_4⟩ := at_T72 HR0.out 0 p341 q341
           cases e341
           have qi341 : (0 < l0.length) = True := eq_true (by omega)
           (try rw [z0, zm, az] at hx341_0); (try rw [z0, zm, az] at hx341_1); (try rw [z0, zm, az] at hx341_2); (try rw [z0, zm, az] at hx341_3); (try rw [z0, zm, az] at hx341_4); replace hx341_0 := cb HB hx341_0; replace hx341_1 := cb HB hx341_1; replace hx341_2 := cb HB hx341_2; replace hx341_3 := cb HB hx341_3; replace hx341_4 := cb HB hx341_4; have HR341_4 := am hi341_4; have HC341_4 := am hl341_4; clear hi341_4 hl341_4; replace p341 := eq_true p341; replace q341 := eq_true q341
           have p342 : 0 ≤ (0 : Int) := (by omega)
           have q342 : 0 < (l0.length : Int) := pD
           (try clear hx341_0); (try clear hx341_1); (try clear hx341_2); (try clear hx341_3); (try clear hHeld)
           obtain ⟨ad342, A342_4, c342_4, e342, hx342_0, hx342_1, hx342_2, hx342_3, hx342_4, hl342_4, hi342_4⟩ := at_T72 HR0.out 0 p342 q342
           obtain rfl : ad341 = ad342 := (by injection e342)
           have qi342 : (0 < l0.length) = True := eq_true (by omega)
           (try rw [z0, zm, az] at hx342_0); (try rw [z0, zm, az] at hx342_1); (try rw [z0, zm, az] at hx342_2); (try rw [z0, zm, az] at hx342_3); (try rw [z0, zm, az] at hx342_4); replace hx342_0 := cb HB hx342_0; replace hx342_1 := cb HB hx342_1; replace hx342_2 := cb HB hx342_2; replace hx342_3 := cb HB hx342_3; replace hx342_4 := cb HB hx342_4; have HR342_4 := am hi342_4; have HC342_4 := am hl342_4; clear hi342_4 hl342_4; replace p342 := eq_true p342; replace q342 := eq_true q342
           have ea_ := sj (hx341_4.symm.trans hx342_4)
           injection ea_ with ea_ en_ ec_
           subst ea_; subst ec_; clear en_
           have p343 : 0 ≤ (x3_1 : Int) := pD
           have q343 : x3_1 < (((rd_T72 l0 0).f4).length : Int) := pD
           obtain ⟨ad343, A343_1, c343_1, A343_2, c343_2, e343, hx343_0, hx343_1, hx343_2, hl343_1, hi343_1, hl343_2, hi343_2⟩ := at_T27 HR342_4.out x3_1 p343 q343
           cases e343; replace hx343_0 := cb HB hx343_0; replace hx343_1 := cb HB hx343_1; replace hx343_2 := cb HB hx343_2; have HR343_1 := am hi343_1; have HC343_1 := am hl343_1; clear hi343_1 hl343_1; have HR343_2 := am hi343_2; have HC343_2 := am hl343_2; clear hi343_2 hl343_2; replace p343 := eq_true p343; replace q343 := eq_true q343
           go_wp2
           go_ret
           exact ⟨pE, pB⟩
         · rw [if_neg c5] at H
           have c5b0 : (((((rd_T27 ((rd_T72 l0 0).f4) x3_1).f1).length : Int) == 0) != (x3_1 == 0)) = false := by simpa using c5
           (try (have c5b1 : decide (((((rd_T27 ((rd_T72 l0 0).f4) x3_1).f1).length : Int) == 0) = (x3_1 == 0)) = true := by simpa using c5))
           (try (have c5b2 : (((((rd_T27 ((rd_T72 l0 0).f4) x3_1).f1).length : Int) == 0) == (x3_1 == 0)) = true := by simpa using c5))
           clear c5
           have H' := am H
           clear H
           have p341 : 0 ≤ (0 : Int) := (by omega)
           have q341 : 0 < (l0.length : Int) := pD
           obtain ⟨ad341, A341_4, c341_4, e341, hx341_0, hx341_1, hx341_2, hx341_3, hx341_4, hl341_4, hi341_4⟩ := at_T72 HR0.out 0 p341 q341
           cases e341
           have qi341 : (0 < l0.length) = True := eq_true (by omega)
           (try rw [z0, zm, az] at hx341_0); (try rw [z0, zm, az] at hx341_1); (try rw [z0, zm, az] at hx341_2); (try rw [z0, zm, az] at hx341_3); (try rw [z0, zm, az] at hx341_4); replace hx341_0 := cb HB hx341_0; replace hx341_1 := cb HB hx341_1; replace hx341_2 := cb HB hx341_2; replace hx341_3 := cb HB hx341_3; replace hx341_4 := cb HB hx341_4; have HR341_4 := am hi341_4; have HC341_4 := am hl341_4; clear hi341_4 hl341_4; replace p341 := eq_true p341; replace q341 := eq_true q341
           have p342 : 0 ≤ (0 : Int) := (by omega)
           have q342 : 0 < (l0.length : Int) := pD
           (try clear hx341_0); (try clear hx341_1); (try clear hx341_2); (try clear hx341_3); (try clear hHeld)
           obtain ⟨ad342, A342_4, c342_4, e342, hx342_0, hx342_1, hx342_2, hx342_3, hx342_4, hl342_4, hi342_4⟩ := at_T72 HR0.out 0 p342 q342
           obtain rfl : ad341 = ad342 := (by injection e342)
           have qi342 : (0 < l0.length) = True := eq_true (by omega)
           (try rw [z0, zm, az] at hx342_0); (try rw [z0, zm, az] at hx342_1); (try rw [z0, zm, az] at hx342_2); (try rw [z0, zm, az] at hx342_3); (try rw [z0, zm, az] at hx342_4); replace hx342_0 := cb HB hx342_0; replace hx342_1 := cb HB hx342_1; replace hx342_2 := cb HB hx342_2; replace hx342_3 := cb HB hx342_3; replace hx342_4 := cb HB hx342_4; have HR342_4 := am hi342_4; have HC342_4 := am hl342_4; clear hi342_4 hl342_4; replace p342 := eq_true p342; replace q342 := eq_true q342
           have ea_ := sj (hx341_4.symm.trans hx342_4)
           injection ea_ with ea_ en_ ec_
           subst ea_; subst ec_; clear en_
           have p343 : 0 ≤ (x3_1 : Int) := pD
           have q343 : x3_1 < (((rd_T72 l0 0).f4).length : Int) := pD
           obtain ⟨ad343, A343_1, c343_1, A343_2, c343_2, e343, hx343_0, hx343_1, hx343_2, hl343_1, hi343_1, hl343_2, hi343_2⟩ := at_T27 HR342_4.out x3_1 p343 q343
           cases e343; replace hx343_0 := cb HB hx343_0; replace hx343_1 := cb HB hx343_1; replace hx343_2 := cb HB hx343_2; have HR343_1 := am hi343_1; have HC343_1 := am hl343_1; clear hi343_1 hl343_1; have HR343_2 := am hi343_2; have HC343_2 := am hl343_2; clear hi343_2 hl343_2; replace p343 := eq_true p343; replace q343 := eq_true q343
           go_wp2
           go_roundg k1
           case measure => have := HK1.out; omega
           case rel => exact ⟨(wrap64 (x3_1 + 1)), pF, H', ⟨by have := HK1.out; omega⟩, ⟨pB⟩⟩
       · rw [if_neg c4] at H
         exact absurd H (by simp)
     · rw [if_neg c3] at H
       have c3b0 : decide (x3_1 < (((rd_T72 l0 0).f4).length : Int)) = false := decide_eq_false c3
       clear c3
       obtain rfl := sj H
       have p341 : 0 ≤ (0 : Int) := (by omega)
       have q341 : 0 < (l0.length : Int) := pD
       obtain ⟨ad341, A341_4, c341_4, e341, hx341_0, hx341_1, hx341_2, hx341_3, hx341_4, hl341_4, hi341_4⟩ := at_T72 HR0.out 0 p341 q341
       cases e341
       have qi341 : (0 < l0.length) = True := eq_true (by omega)
       (try rw [z0, zm, az] at hx341_0); (try rw [z0, zm, az] at hx341_1); (try rw [z0, zm, az] at hx341_2); (try rw [z0, zm, az] at hx341_3); (try rw [z0, zm, az] at hx341_4); replace hx341_0 := cb HB hx341_0; replace hx341_1 := cb HB hx341_1; replace hx341_2 := cb HB hx341_2; replace hx341_3 := cb HB hx341_3; replace hx341_4 := cb HB hx341_4; have HR341_4 := am hi341_4; have HC341_4 := am hl341_4; clear hi341_4 hl341_4; replace p341 := eq_true p341; replace q341 := eq_true q341
       go_wp2
       go_ret
       exact ⟨pE, pB⟩
   · rw [if_neg c2] at H
     exact absurd H (by simp)
def spec_l6Bases.f (k : Nat) (a0_0 : Int) (a0_1 : Int) (a0_2 : Int) (a0_3 : Int) (l0_4 : List (S27)) : Option (Bool) := spec_l6Bases_in.f k [(⟨a0_0, a0_1, a0_2, a0_3, l0_4⟩ : S72)]
theorem spec_l6Bases.mono : ∀ (a0_0 : Int) (a0_1 : Int) (a0_2 : Int) (a0_3 : Int) (l0_4 : List (S27)) (k : Nat), LeO (spec_l6Bases.f k a0_0 a0_1 a0_2 a0_3 l0_4) (spec_l6Bases.f (k + 1) a0_0 a0_1 a0_2 a0_3 l0_4) := fun a0_0 a0_1 a0_2 a0_3 l0_4 k => spec_l6Bases_in.mono [(⟨a0_0, a0_1, a0_2, a0_3, l0_4⟩ : S72)] k
set_option maxHeartbeats 8000000 in
theorem spec_l6Bases.calls (k : Nat) (a0_0 : Int) (a0_1 : Int) (a0_2 : Int) (a0_3 : Int) (A0_4 : Option Addr) (c0_4 : Nat) (l0_4 : List (S27)) (r : Bool) (w : World) (hr0_4 : Kd.C k27 w A0_4 l0_4.length l0_4) (hc0_4 : l0_4.length ≤ c0_4) (h : spec_l6Bases.f k a0_0 a0_1 a0_2 a0_3 l0_4 = some r) {pp0 : Addr} (hpp0_0 : w.cell? pp0 = some (.int .i64 a0_0)) (hpp0_1 : w.cell? ⟨pp0.block, pp0.off + 1, none⟩ = some (.int .i64 a0_1)) (hpp0_2 : w.cell? ⟨pp0.block, pp0.off + 2, none⟩ = some (.int .i64 a0_2)) (hpp0_3 : w.cell? ⟨pp0.block, pp0.off + 3, none⟩ = some (.int .i64 a0_3)) (hpp0_4 : w.cell? ⟨pp0.block, pp0.off + 4, none⟩ = some (.slice A0_4 l0_4.length c0_4)) :
 Calls Try.prog 132 #[.pointer (some pp0)] w fun e w' => e = .returned (.bool r) ∧ Below w.heap.size w w' := by
 have o0 : Kd.C k72 w (some pp0) 1 [(⟨a0_0, a0_1, a0_2, a0_3, l0_4⟩ : S72)] := by
  refine ⟨rfl, by decide, fun _ => ⟨pp0, rfl, fun j p hj => ?_⟩⟩
  cases j with
  | succ j => simp at hj
  | zero =>
   obtain rfl : (⟨a0_0, a0_1, a0_2, a0_3, l0_4⟩ : S72) = p := by simpa using hj
   refine ⟨_, rfl, k72_mk w _ hc0_4 hr0_4, fun i u hu => ?_⟩
   match i, hu with
   | 0, hu => obtain rfl := sj hu; exact hpp0_0
   | 1, hu => obtain rfl := sj hu; exact hpp0_1
   | 2, hu => obtain rfl := sj hu; exact hpp0_2
   | 3, hu => obtain rfl := sj hu; exact hpp0_3
   | 4, hu => obtain rfl := sj hu; exact hpp0_4
 exact spec_l6Bases_in.calls k (some pp0) 1 [(⟨a0_0, a0_1, a0_2, a0_3, l0_4⟩ : S72)] r w o0 (Nat.le_refl 1) h
def spec_l1Four.f (a0 : Int) : Option (List Int) := some (([(a0 / 16777216) % 256, (a0 / 65536) % 256, (a0 / 256) % 256, (a0) % 256] : List Int))
theorem spec_l1Four.calls (a0 : Int) (r : List Int) (w : World) (h : spec_l1Four.f a0 = some r) :
 Calls Try.prog 161 #[.int .i64 a0] w fun e w' => ∃ v0_ : Value, e = .returned (v0_) ∧ Kd.R (Kd.int .u8) 5 w' w.heap.size (fun _ => True) v0_ r ∧ Below w.heap.size w w' := by
 have HB := am (Below.refl w.heap.size w)
 have H : (some (([(a0 / 16777216) % 256, (a0 / 65536) % 256, (a0 / 256) % 256, (a0) % 256] : List Int))) = some r := h
 clear h
 obtain ⟨y344, hy344⟩ : ∃ y_ : List Int, y_ = (([(a0 / 16777216) % 256, (a0 / 65536) % 256, (a0 / 256) % 256, (a0) % 256] : List Int)) := ⟨_, rfl⟩
 replace H : (some y344) = some r := by first | (rw [hy344]; with_reducible exact H) | (have H2_ := (Option.bind_some _ _).symm.trans H; rw [hy344]; with_reducible exact H2_) | (have H2_ := (Option.bind_some _ _).symm.trans H; with_reducible exact H2_) | with_reducible exact H | (rw [hy344]; exact H) | exact H
 have Ny344 := am hy344; clear hy344
 obtain rfl := sj H
 go_enter Try.func161, Try.ntmps161
 go_wp2_with (first | ((with_reducible refine gate_dst (N := 14) rfl ?_); refine Kd.R_lit (Kd.int .u8) _ 5 ?hg (N := 14) ?hd (xs := ([(a0 / 16777216) % 256, (a0 / 65536) % 256, (a0 / 256) % 256, (a0) % 256] : List Int)) (inner := [.int .u8 ((a0 / 16777216) % 256), .int .u8 ((a0 / 65536) % 256), .int .u8 ((a0 / 256) % 256), .int .u8 ((a0) % 256)]) (ok := fun _ => True) (okp := fun _ => True) ?hr ?hp (fun _ hk => hk) trivial (Below.refl _ _) (Nat.le_refl _) (by simp) ?_; (case hd => rfl); (case hg => rfl); (case hr => first | (go_simp; done) | (go_simp; rfl)); (case hp => exact (Reps.one (show Kd.M (Kd.int .u8) _ _ _ ((a0 / 16777216) % 256) [.int .u8 ((a0 / 16777216) % 256)] from rfl) (Reps.one (show Kd.M (Kd.int .u8) _ _ _ ((a0 / 65536) % 256) [.int .u8 ((a0 / 65536) % 256)] from rfl) (Reps.one (show Kd.M (Kd.int .u8) _ _ _ ((a0 / 256) % 256) [.int .u8 ((a0 / 256) % 256)] from rfl) (Reps.one (show Kd.M (Kd.int .u8) _ _ _ ((a0) % 256) [.int .u8 ((a0) % 256)] from rfl) (Reps.none _ _)))))); intro v345 w2 ho3 hb hg_ hnew_; clear hg_ hnew_; (first | rw [← Ny344.out] at ho3 | (simp only [Int.reduceToNat] at ho3; rw [← Ny344.out] at ho3)); have n_ := t2 (rL ho3 (bs_ pB)) (bz_ pB hb); clear HB; obtain ⟨HO346, HB⟩ := n_; clear hb ho3))
 go_ret
 exact ⟨_, pE, (pR HO346), pB⟩
end Go.Proofs.Ythjlbpgiaehjnaa.QFnExactBlockRoot
