-- written by this session's program (wip/tools/myprint.py)
import Derived.Test.YthjlbpgiaehjnaaQFnNamesx0
import Derived.Test.YthjlbpgiaehjnaaQFnNamesx7
import Derived.Test.YthjlbpgiaehjnaaQFnNamesx9
import Derived.Test.YthjlbpgiaehjnaaQFnNamesx12
import Derived.Test.YthjlbpgiaehjnaaQFnNamesx13
-- squeezed
namespace Go.Proofs.Ythjlbpgiaehjnaa.QFnNames
open Go.RowKit Go.Proofs.YthjlbpgiaehjnaaW.PrintWords Go.Proofs.YthjlbpgiaehjnaaW.PrintLast Go.Proofs.YthjlbpgiaehjnaaW.PrintMore
attribute [local go_sem] max2_int min2_int max_two min_two max_three min_three max_four min_four   -- for this text's walks alone
set_option linter.unusedVariables false
set_option linter.unusedSimpArgs false
set_option maxHeartbeats 8000000
set_option maxRecDepth 100000
def spec_l3Pack.f (k : Nat) (a0_0 : Int) (l0_1 : List (S34)) (l0_2 : List (S86)) (a1 : Bool) : Option (List Int) := spec_l3Pack_in.f k [(⟨a0_0, l0_1, l0_2⟩ : S27)] a1
theorem spec_l3Pack.mono : ∀ (a0_0 : Int) (l0_1 : List (S34)) (l0_2 : List (S86)) (a1 : Bool) (k : Nat), LeO (spec_l3Pack.f k a0_0 l0_1 l0_2 a1) (spec_l3Pack.f (k + 1) a0_0 l0_1 l0_2 a1) := fun a0_0 l0_1 l0_2 a1 k => spec_l3Pack_in.mono [(⟨a0_0, l0_1, l0_2⟩ : S27)] a1 k
set_option maxHeartbeats 8000000 in
theorem spec_l3Pack.calls (k : Nat) (a0_0 : Int) (A0_1 : Option Addr) (c0_1 : Nat) (l0_1 : List (S34)) (A0_2 : Option Addr) (c0_2 : Nat) (l0_2 : List (S86)) (a1 : Bool) (r : List Int) (w : World) (hr0_1 : Kd.C k34 w A0_1 l0_1.length l0_1) (hc0_1 : l0_1.length ≤ c0_1) (hr0_2 : Kd.C k86 w A0_2 l0_2.length l0_2) (hc0_2 : l0_2.length ≤ c0_2) (h : spec_l3Pack.f k a0_0 l0_1 l0_2 a1 = some r) {pp0 : Addr} (hpp0_0 : w.cell? pp0 = some (.int .i64 a0_0)) (hpp0_1 : w.cell? ⟨pp0.block, pp0.off + 1, none⟩ = some (.slice A0_1 l0_1.length c0_1)) (hpp0_2 : w.cell? ⟨pp0.block, pp0.off + 2, none⟩ = some (.slice A0_2 l0_2.length c0_2)) :
 Calls Try.prog 71 #[.pointer (some pp0), .bool a1] w fun e w' => ∃ v0_ : Value, e = .returned (v0_) ∧ Kd.R (Kd.int .u8) 5 w' w.heap.size (fun _ => True) v0_ r ∧ Below w.heap.size w w' := by
 have o0 : Kd.C k27 w (some pp0) 1 [(⟨a0_0, l0_1, l0_2⟩ : S27)] := by
  refine ⟨rfl, by decide, fun _ => ⟨pp0, rfl, fun j p hj => ?_⟩⟩
  cases j with
  | succ j => simp at hj
  | zero =>
   obtain rfl : (⟨a0_0, l0_1, l0_2⟩ : S27) = p := by simpa using hj
   refine ⟨_, rfl, k27_mk w _ hc0_1 hr0_1 hc0_2 hr0_2, fun i u hu => ?_⟩
   match i, hu with
   | 0, hu => obtain rfl := sj hu; exact hpp0_0
   | 1, hu => obtain rfl := sj hu; exact hpp0_1
   | 2, hu => obtain rfl := sj hu; exact hpp0_2
 exact spec_l3Pack_in.calls k (some pp0) 1 [(⟨a0_0, l0_1, l0_2⟩ : S27)] a1 r w o0 (Nat.le_refl 1) h
def spec_l1Sum.l0 : Nat → List Int → Int → Int → Option (Int)
 | 0, _, _, _ => none
 | k + 1, x0, x3, x4 => if x4 < (x0.length : Int) then (if 0 ≤ x4 then (spec_l1Sum.l0 k x0 (Int.tmod (wrap64 ((wrap64 ((wrap64 (x3 * 33)) + (wrap64 (rd x0 x4)))) + 1)) 2147483647) (wrap64 (x4 + 1))) else (none)) else (some x3)
def spec_l1Sum.f (k : Nat) (l0 : List Int) : Option (Int) := spec_l1Sum.l0 k l0 5381 0
theorem spec_l1Sum.mono_l : ∀ k, (∀ y0 y1 y2, LeO (spec_l1Sum.l0 k y0 y1 y2) (spec_l1Sum.l0 (k + 1) y0 y1 y2))
 | 0 => fun _ _ _ r h => by simp [spec_l1Sum.l0] at h
 | k + 1 => by
  have ih0 := spec_l1Sum.mono_l k
  · intro y0 y1 y2
    unfold spec_l1Sum.l0
    repeat' with_reducible first | exact ih0 _ _ _ | exact LeO.refl _ | exact LeO.none _ | refine LeO.ite ?_ ?_ | refine LeO.bind ?_ (fun _ => ?_)
theorem spec_l1Sum.mono : ∀ a0 k, LeO (spec_l1Sum.f k a0) (spec_l1Sum.f (k + 1) a0) := by
 intro a0 k
 have ih0 := spec_l1Sum.mono_l k
 unfold spec_l1Sum.f
 repeat' with_reducible first | exact ih0 _ _ _ | exact LeO.refl _ | exact LeO.none _ | refine LeO.ite ?_ ?_ | refine LeO.bind ?_ (fun _ => ?_)
theorem spec_l1Sum.calls (k : Nat) (A0 : Option Addr) (c0 : Nat) (l0 : List Int) (r : Int) (w : World) (hr0 : Kd.C (Kd.int .u8) w A0 l0.length l0) (hc0 : l0.length ≤ c0) (h : spec_l1Sum.f k l0 = some r) :
 Calls Try.prog 103 #[.slice A0 l0.length c0] w fun e w' => e = .returned (.int .i64 r) ∧ Drawn0 w w' := by
 have HR0 := am hr0; have HC0 := am hc0; clear hr0 hc0
 have H : (spec_l1Sum.l0 k l0 5381 0) = some r := h
 clear h
 have H' := am H
 clear H
 go_enter Try.func103, Try.ntmps103
 go_wp2
 go_loopg [3, 4] k (fun kq v3 v4 w' => ∃ (x3_1 : Int) (x4_1 : Int), v3 = .int .i64 x3_1 ∧ v4 = .int .i64 x4_1 ∧ Aside0 (spec_l1Sum.l0 kq l0 x3_1 x4_1 = some r) ∧ Aside0 (kq ≤ k) ∧ Drawn0 w w')
 case atStart => exact ⟨(5381), (0), pF, pF, H', ⟨Nat.le_refl _⟩, pW⟩
 case round =>
  clear H'
  obtain ⟨x3_1, x4_1, rfl, rfl, HA, HK1, ⟨m1, rfl⟩⟩ := hrel
  cases gk with
  | zero => exact absurd HA.out (by simp [spec_l1Sum.l0])
  | succ k1 =>
   have H := HA.out
   clear HA
   simp only [spec_l1Sum.l0] at H
   by_cases c2 : x4_1 < (l0.length : Int)
   · rw [if_pos c2] at H
     have c2b0 : decide (x4_1 < (l0.length : Int)) = true := dt c2
     clear c2
     by_cases c3 : 0 ≤ x4_1
     · rw [if_pos c3] at H
       have c3b0 : decide (0 ≤ x4_1) = true := dt c3
       clear c3
       have H' := am H
       clear H
       have p557 : 0 ≤ (x4_1 : Int) := pD
       have q557 : x4_1 < (l0.length : Int) := pD
       obtain ⟨ad557, e557, hx557_0⟩ := Kd.at_int HR0.out x4_1 p557 q557
       cases e557; replace p557 := eq_true p557; replace q557 := eq_true q557
       go_wp2
       go_roundg k1
       case measure => have := HK1.out; omega
       case rel => exact ⟨(Int.tmod (wrap64 ((wrap64 ((wrap64 (x3_1 * 33)) + (wrap64 (rd l0 x4_1)))) + 1)) 2147483647), (wrap64 (x4_1 + 1)), pF, pF, H', ⟨by have := HK1.out; omega⟩, pW⟩
     · rw [if_neg c3] at H
       exact absurd H (by simp)
   · rw [if_neg c2] at H
     have c2b0 : decide (x4_1 < (l0.length : Int)) = false := decide_eq_false c2
     clear c2
     obtain rfl := sj H
     go_wp2
     go_ret
     exact ⟨by first | rfl | (simp; done) | (simp [*]; done), pW⟩
def spec_l3Sum_in.f (k : Nat) (l0 : List (S27)) : Option (Int) := if 0 < (l0.length : Int) then ((spec_l3Pack.f k ((rd_T27 l0 0).f0) ((rd_T27 l0 0).f1) ((rd_T27 l0 0).f2) false).bind fun t559 => ((spec_l1Sum.f k t559).bind fun t562 => (some t562))) else (none)
theorem spec_l3Sum_in.mono : ∀ a0 k, LeO (spec_l3Sum_in.f k a0) (spec_l3Sum_in.f (k + 1) a0) := by
 intro a0 k
 unfold spec_l3Sum_in.f
 repeat' with_reducible first | exact spec_l1Sum.mono _ _ | exact spec_l3Pack.mono _ _ _ _ _ | exact LeO.refl _ | exact LeO.none _ | refine LeO.ite ?_ ?_ | refine LeO.bind ?_ (fun _ => ?_)
theorem spec_l3Sum_in.calls (k : Nat) (A0 : Option Addr) (c0 : Nat) (l0 : List (S27)) (r : Int) (w : World) (hr0 : Kd.C k27 w A0 l0.length l0) (hc0 : l0.length ≤ c0) (h : spec_l3Sum_in.f k l0 = some r) :
 Calls Try.prog 54 #[.pointer A0] w fun e w' => e = .returned (.int .i64 r) ∧ Below w.heap.size w w' := by
 have hu27 := Try.underlying27
 have HR0 := am hr0; have HC0 := am hc0; clear hr0 hc0
 have HB := am (Below.refl w.heap.size w)
 have H : (if 0 < (l0.length : Int) then ((spec_l3Pack.f k ((rd_T27 l0 0).f0) ((rd_T27 l0 0).f1) ((rd_T27 l0 0).f2) false).bind fun t559 => ((spec_l1Sum.f k t559).bind fun t562 => (some t562))) else (none)) = some r := h
 clear h
 by_cases c2 : 0 < (l0.length : Int)
 · rw [if_pos c2] at H
   have c2b0 : decide (0 < (l0.length : Int)) = true := dt c2
   have c2b1 : decide (0 < l0.length) = true := dt (by omega)
   clear c2
   obtain ⟨t559, A30, H⟩ := bO H
   replace H : ((spec_l1Sum.f k t559).bind fun t562 => (some t562)) = some r := H
   have A3 := am A30; clear A30
   obtain ⟨t562, A40, H⟩ := bO H
   replace H : (some t562) = some r := H
   have A4 := am A40; clear A40
   obtain rfl := sj H
   have p558 : 0 ≤ (0 : Int) := (by omega)
   have q558 : 0 < (l0.length : Int) := pD
   obtain ⟨ad558, A558_1, c558_1, A558_2, c558_2, e558, hx558_0, hx558_1, hx558_2, hl558_1, hi558_1, hl558_2, hi558_2⟩ := at_T27 HR0.out 0 p558 q558
   cases e558
   have qi558 : (0 < l0.length) = True := eq_true (by omega)
   (try rw [z0, zm, az] at hx558_0); (try rw [z0, zm, az] at hx558_1); (try rw [z0, zm, az] at hx558_2); have HR558_1 := am hi558_1; have HC558_1 := am hl558_1; clear hi558_1 hl558_1; have HR558_2 := am hi558_2; have HC558_2 := am hl558_2; clear hi558_2 hl558_2; replace p558 := eq_true p558; replace q558 := eq_true q558
   go_enter Try.func54, Try.ntmps54
   go_wp2_with (first | ((with_reducible refine gC (f := 71) rfl ?_); refine goesL_ (some 4) rfl rfl Try.func71 (by kernel_rfl) rfl #[.pointer (some _), .bool false] rfl pA ?_; (refine Calls.mono (spec_l3Pack.calls k ((rd_T27 l0 0).f0) _ _ ((rd_T27 l0 0).f1) _ _ ((rd_T27 l0 0).f2) false t559 _ ?side1 ?side2 ?side3 ?side4 A3.out (hpp0_0 := by first | (with_unfolding_all assumption) | (dsimp only; assumption) | (dsimp only [Nat.zero_add]; exact (blk_cell (Aside0.out (by assumption)) _).trans rfl) | (go_simp; done)) (hpp0_1 := by first | (with_unfolding_all assumption) | (dsimp only; assumption) | (dsimp only [Nat.zero_add]; exact (blk_cell (Aside0.out (by assumption)) _).trans rfl) | (go_simp; done)) (hpp0_2 := by first | (with_unfolding_all assumption) | (dsimp only; assumption) | (dsimp only [Nat.zero_add]; exact (blk_cell (Aside0.out (by assumption)) _).trans rfl) | (go_simp; done))) ?_); (case side1 => exact pC HR558_1.out); (case side2 => exact HC558_1.out); (case side3 => exact pC HR558_2.out); (case side4 => exact HC558_2.out); rintro e w5 ⟨v560, rfl, ho0, hb⟩; refine ⟨_, rfl, ?_⟩; have n_ := t2 (rL ho0 (bs_ pB)) (bz_ pB hb); clear HB; obtain ⟨HO561, HB⟩ := n_; (try clear hb); (try clear ho0); obtain ⟨Ao6, co6, eo6⟩ := rS HO561.out; subst eo6) | ((with_reducible refine gC (f := 103) rfl ?_); refine goesL_ (some 5) rfl rfl Try.func103 (by kernel_rfl) rfl #[.slice Ao6 t559.length co6] rfl pA ?_; (with_reducible refine (spec_l1Sum.calls k _ _ t559 t562 _ ?side1 ?side2 A4.out).mono ?_); (case side1 => exact pC (rr HO561.out).2.2); (case side2 => exact (rr HO561.out).2.1); rintro e w' ⟨rfl, ⟨nd, rfl⟩⟩; refine ⟨_, rfl, ?_⟩))
   go_ret
   exact ⟨pE, pB⟩
 · rw [if_neg c2] at H
   exact absurd H (by simp)
def spec_l3Sum.f (k : Nat) (a0_0 : Int) (l0_1 : List (S34)) (l0_2 : List (S86)) : Option (Int) := spec_l3Sum_in.f k [(⟨a0_0, l0_1, l0_2⟩ : S27)]
theorem spec_l3Sum.mono : ∀ (a0_0 : Int) (l0_1 : List (S34)) (l0_2 : List (S86)) (k : Nat), LeO (spec_l3Sum.f k a0_0 l0_1 l0_2) (spec_l3Sum.f (k + 1) a0_0 l0_1 l0_2) := fun a0_0 l0_1 l0_2 k => spec_l3Sum_in.mono [(⟨a0_0, l0_1, l0_2⟩ : S27)] k
set_option maxHeartbeats 8000000 in
theorem spec_l3Sum.calls (k : Nat) (a0_0 : Int) (A0_1 : Option Addr) (c0_1 : Nat) (l0_1 : List (S34)) (A0_2 : Option Addr) (c0_2 : Nat) (l0_2 : List (S86)) (r : Int) (w : World) (hr0_1 : Kd.C k34 w A0_1 l0_1.length l0_1) (hc0_1 : l0_1.length ≤ c0_1) (hr0_2 : Kd.C k86 w A0_2 l0_2.length l0_2) (hc0_2 : l0_2.length ≤ c0_2) (h : spec_l3Sum.f k a0_0 l0_1 l0_2 = some r) {pp0 : Addr} (hpp0_0 : w.cell? pp0 = some (.int .i64 a0_0)) (hpp0_1 : w.cell? ⟨pp0.block, pp0.off + 1, none⟩ = some (.slice A0_1 l0_1.length c0_1)) (hpp0_2 : w.cell? ⟨pp0.block, pp0.off + 2, none⟩ = some (.slice A0_2 l0_2.length c0_2)) :
 Calls Try.prog 54 #[.pointer (some pp0)] w fun e w' => e = .returned (.int .i64 r) ∧ Below w.heap.size w w' := by
 have o0 : Kd.C k27 w (some pp0) 1 [(⟨a0_0, l0_1, l0_2⟩ : S27)] := by
  refine ⟨rfl, by decide, fun _ => ⟨pp0, rfl, fun j p hj => ?_⟩⟩
  cases j with
  | succ j => simp at hj
  | zero =>
   obtain rfl : (⟨a0_0, l0_1, l0_2⟩ : S27) = p := by simpa using hj
   refine ⟨_, rfl, k27_mk w _ hc0_1 hr0_1 hc0_2 hr0_2, fun i u hu => ?_⟩
   match i, hu with
   | 0, hu => obtain rfl := sj hu; exact hpp0_0
   | 1, hu => obtain rfl := sj hu; exact hpp0_1
   | 2, hu => obtain rfl := sj hu; exact hpp0_2
 exact spec_l3Sum_in.calls k (some pp0) 1 [(⟨a0_0, l0_1, l0_2⟩ : S27)] r w o0 (Nat.le_refl 1) h
def spec_TxSum.f (k : Nat) (a0_0 : Int) (l0_1 : List (S34)) (l0_2 : List (S86)) : Option (Int × Int) := (spec_l3Fault.f k a0_0 l0_1 l0_2).bind fun t565 => (if t565 = 0 then ((spec_l3Sum.f k a0_0 l0_1 l0_2).bind fun t566 => (some (0, t566))) else (some (t565, 0)))
theorem spec_TxSum.mono : ∀ a0 a1 a2 k, LeO (spec_TxSum.f k a0 a1 a2) (spec_TxSum.f (k + 1) a0 a1 a2) := by
 intro a0 a1 a2 k
 unfold spec_TxSum.f
 repeat' with_reducible first | exact spec_l3Fault.mono _ _ _ _ | exact spec_l3Sum.mono _ _ _ _ | exact LeO.refl _ | exact LeO.none _ | refine LeO.ite ?_ ?_ | refine LeO.bind ?_ (fun _ => ?_)
theorem spec_TxSum.calls (k : Nat) (a0_0 : Int) (A0_1 : Option Addr) (c0_1 : Nat) (l0_1 : List (S34)) (A0_2 : Option Addr) (c0_2 : Nat) (l0_2 : List (S86)) (r1 : Int) (r2 : Int) (w : World) (hr0_1 : Kd.C k34 w A0_1 l0_1.length l0_1) (hc0_1 : l0_1.length ≤ c0_1) (hr0_2 : Kd.C k86 w A0_2 l0_2.length l0_2) (hc0_2 : l0_2.length ≤ c0_2) (h : spec_TxSum.f k a0_0 l0_1 l0_2 = some (r1, r2)) :
 Calls Try.prog 13 #[.agg #[.int .i64 a0_0, .slice A0_1 l0_1.length c0_1, .slice A0_2 l0_2.length c0_2]] w fun e w' => e = .returned (.agg #[.int .i64 r1, .int .i64 r2]) ∧ Below w.heap.size w w' := by
 have hu27 := Try.underlying27
 have hu30 := Try.underlying30
 have HR0_1 := am hr0_1; have HC0_1 := am hc0_1; clear hr0_1 hc0_1; have HR0_2 := am hr0_2; have HC0_2 := am hc0_2; clear hr0_2 hc0_2
 have HB := am (Below.refl w.heap.size w)
 have H : ((spec_l3Fault.f k a0_0 l0_1 l0_2).bind fun t565 => (if t565 = 0 then ((spec_l3Sum.f k a0_0 l0_1 l0_2).bind fun t566 => (some (0, t566))) else (some (t565, 0)))) = some (r1, r2) := h
 clear h
 obtain ⟨t565, A20, H⟩ := bO H
 replace H : (if t565 = 0 then ((spec_l3Sum.f k a0_0 l0_1 l0_2).bind fun t566 => (some (0, t566))) else (some (t565, 0))) = some (r1, r2) := H
 have A2 := am A20; clear A20
 by_cases c3 : t565 = 0
 · rw [if_pos c3] at H
   have c3b0 : (t565 == 0) = true := beq_iff_eq.mpr c3
   have c3b1 : (t565 != 0) = false := bne_eq_false_iff_eq.mpr c3
   clear c3
   obtain ⟨t566, A40, H⟩ := bO H
   replace H : (some (0, t566)) = some (r1, r2) := H
   have A4 := am A40; clear A40
   simp only [Option.some.injEq, Prod.mk.injEq] at H
   obtain ⟨rfl, rfl⟩ := H
   go_enter Try.func13, Try.ntmps13
   go_wp2_with (first | ((with_reducible refine gate_dst (N := 1) rfl ?_); refine box_event ?hg (N := 1) ?hd (cs := #[.int .i64 a0_0, .slice A0_1 l0_1.length c0_1, .slice A0_2 l0_2.length c0_2]) (t := 27) ?hr ?_; (case hd => rfl); (case hg => rfl); (case hr => first | (go_simp; done) | (go_simp; rfl)); intro gb563 hg w5 hbox hb; have n_ := t4 (bz_ pB hb) (hbox) ((by rw [hg]; exact (bs_ pB) : w.heap.size ≤ gb563)) ((by rw [hg]; exact (bs_ pB) : w.heap.size ≤ gb563)); clear HB; obtain ⟨HB, BK563, GW563, GE563⟩ := n_; clear hb hbox hg) | ((with_reducible refine gate_dst (N := 2) rfl ?_); refine box_event ?hg (N := 2) ?hd (cs := #[.int .i64 0, .int .i64 0]) (t := 30) ?hr ?_; (case hd => rfl); (case hg => rfl); (case hr => first | (go_simp; done) | (go_simp; rfl)); intro gb564 hg w6 hbox hb; have n_ := t7 (blk_below (g := gb563) (o := .cells #[.int .i64 a0_0, .slice A0_1 l0_1.length c0_1, .slice A0_2 l0_2.length c0_2] 27 (0, 0)) (pK BK563) hb) (bz_ pB hb) (hbox) ((by rw [hg]; exact (bs_ pB) : w.heap.size ≤ gb564)) ((by rw [hg]; exact (bs_ pB) : w.heap.size ≤ gb564)) ((by rw [hg]; exact Nat.ne_of_lt (blk_lt (g := gb563) (o := .cells #[.int .i64 a0_0, .slice A0_1 l0_1.length c0_1, .slice A0_2 l0_2.length c0_2] 27 (0, 0)) (pK BK563)) : gb563 ≠ gb564)) ((by rw [hg]; exact Nat.ne_of_gt (blk_lt (g := gb563) (o := .cells #[.int .i64 a0_0, .slice A0_1 l0_1.length c0_1, .slice A0_2 l0_2.length c0_2] 27 (0, 0)) (pK BK563)) : gb564 ≠ gb563)); clear BK563 HB; obtain ⟨BK563, HB, BK564, GW564, GE564, NB563_564, NB564_563⟩ := n_; clear hb hbox hg; have hnb7 := NB563_564.out; have hnc7 := NB564_563.out; have hcz8_0 : w6.cell? ⟨gb563, 0, none⟩ = some (.int .i64 a0_0) := (blk_cell BK563.out 0).trans rfl; have hcz8_1 : w6.cell? ⟨gb563, 1, none⟩ = some (.slice A0_1 l0_1.length c0_1) := (blk_cell BK563.out 1).trans rfl; have hcz8_2 : w6.cell? ⟨gb563, 2, none⟩ = some (.slice A0_2 l0_2.length c0_2) := (blk_cell BK563.out 2).trans rfl; have hfz8_0 := blk_frozen BK563.out 0; have hfz8_1 := blk_frozen BK563.out 1; have hfz8_2 := blk_frozen BK563.out 2) | ((with_reducible refine gC (f := 53) rfl ?_); refine goesL_ (some 4) rfl rfl Try.func53 (by kernel_rfl) rfl #[.pointer (some _)] rfl pA ?_; (refine Calls.mono (spec_l3Fault.calls k a0_0 _ _ l0_1 _ _ l0_2 t565 _ ?side1 ?side2 ?side3 ?side4 A2.out (hpp0_0 := by first | (with_unfolding_all assumption) | (dsimp only; assumption) | (dsimp only [Nat.zero_add]; exact (blk_cell (Aside0.out (by assumption)) _).trans rfl) | (go_simp; done)) (hpp0_1 := by first | (with_unfolding_all assumption) | (dsimp only; assumption) | (dsimp only [Nat.zero_add]; exact (blk_cell (Aside0.out (by assumption)) _).trans rfl) | (go_simp; done)) (hpp0_2 := by first | (with_unfolding_all assumption) | (dsimp only; assumption) | (dsimp only [Nat.zero_add]; exact (blk_cell (Aside0.out (by assumption)) _).trans rfl) | (go_simp; done))) ?_); (case side1 => exact pC (Kd.C_below HR0_1.out HB.out)); (case side2 => exact HC0_1.out); (case side3 => exact pC (Kd.C_below HR0_2.out HB.out)); (case side4 => exact HC0_2.out); rintro e w9 ⟨rfl, hb⟩; refine ⟨_, rfl, ?_⟩; have n_ := t3 (blk_below (g := gb563) (o := .cells #[.int .i64 a0_0, .slice A0_1 l0_1.length c0_1, .slice A0_2 l0_2.length c0_2] 27 (0, 0)) (pK BK563) hb) (blk_below (g := gb564) (o := .cells #[.int .i64 0, .int .i64 0] 30 (0, 0)) (pK BK564) hb) (bz_ pB hb); clear BK563 BK564 HB; obtain ⟨BK563, BK564, HB⟩ := n_; (try clear hb); have hcz10_0 : w9.cell? ⟨gb563, 0, none⟩ = some (.int .i64 a0_0) := (blk_cell BK563.out 0).trans rfl; have hcz10_1 : w9.cell? ⟨gb563, 1, none⟩ = some (.slice A0_1 l0_1.length c0_1) := (blk_cell BK563.out 1).trans rfl; have hcz10_2 : w9.cell? ⟨gb563, 2, none⟩ = some (.slice A0_2 l0_2.length c0_2) := (blk_cell BK563.out 2).trans rfl; have hfz10_0 := blk_frozen BK563.out 0; have hfz10_1 := blk_frozen BK563.out 1; have hfz10_2 := blk_frozen BK563.out 2) | ((with_reducible refine gC (f := 54) rfl ?_); refine goesL_ (some 9) rfl rfl Try.func54 (by kernel_rfl) rfl #[.pointer (some _)] rfl pA ?_; (refine Calls.mono (spec_l3Sum.calls k a0_0 _ _ l0_1 _ _ l0_2 t566 _ ?side1 ?side2 ?side3 ?side4 A4.out (hpp0_0 := by first | (with_unfolding_all assumption) | (dsimp only; assumption) | (dsimp only [Nat.zero_add]; exact (blk_cell (Aside0.out (by assumption)) _).trans rfl) | (go_simp; done)) (hpp0_1 := by first | (with_unfolding_all assumption) | (dsimp only; assumption) | (dsimp only [Nat.zero_add]; exact (blk_cell (Aside0.out (by assumption)) _).trans rfl) | (go_simp; done)) (hpp0_2 := by first | (with_unfolding_all assumption) | (dsimp only; assumption) | (dsimp only [Nat.zero_add]; exact (blk_cell (Aside0.out (by assumption)) _).trans rfl) | (go_simp; done))) ?_); (case side1 => exact pC (Kd.C_below HR0_1.out HB.out)); (case side2 => exact HC0_1.out); (case side3 => exact pC (Kd.C_below HR0_2.out HB.out)); (case side4 => exact HC0_2.out); rintro e w11 ⟨rfl, hb⟩; refine ⟨_, rfl, ?_⟩; have n_ := t3 (blk_below (g := gb563) (o := .cells #[.int .i64 a0_0, .slice A0_1 l0_1.length c0_1, .slice A0_2 l0_2.length c0_2] 27 (0, 0)) (pK BK563) hb) (blk_below (g := gb564) (o := .cells #[.int .i64 0, .int .i64 0] 30 (0, 0)) (pK BK564) hb) (bz_ pB hb); clear BK563 BK564 HB; obtain ⟨BK563, BK564, HB⟩ := n_; (try clear hb); have hcz12_0 : w11.cell? ⟨gb564, 0, none⟩ = some (.int .i64 0) := (blk_cell BK564.out 0).trans rfl; have hcz12_1 : w11.cell? ⟨gb564, 1, none⟩ = some (.int .i64 0) := (blk_cell BK564.out 1).trans rfl; have hfz12_0 := blk_frozen BK564.out 0; have hfz12_1 := blk_frozen BK564.out 1))
   refine bodyPost_ret (results_cell_row rfl _ _ gb564 30 #[.int .i64 0, .int .i64 t566] (0, 0) _ rfl (by (with_reducible repeat (first | refine blk_drewN ?_ _ | refine blk_drew ?_ | refine blk_alloc ?_ _)); refine blk_put (cs := #[.int .i64 0, .int .i64 0]) ?_ 1 _ rfl; (with_reducible repeat (first | refine blk_drewN ?_ _ | refine blk_drew ?_ | refine blk_alloc ?_ _)); refine blk_put (cs := #[.int .i64 0, .int .i64 0]) ?_ 0 _ rfl; (with_reducible repeat (first | refine blk_drewN ?_ _ | refine blk_drew ?_ | refine blk_alloc ?_ _)); exact BK564.out) Try.underlying30 rfl (by kernel_rfl)) rfl ?_
   exact ⟨pE, pB⟩
 · rw [if_neg c3] at H
   have c3b0 : (t565 == 0) = false := beq_eq_false_iff_ne.mpr c3
   have c3b1 : (t565 != 0) = true := bne_iff_ne.mpr c3
   simp only [Option.some.injEq, Prod.mk.injEq] at H
   obtain ⟨rfl, rfl⟩ := H
   go_enter Try.func13, Try.ntmps13
   go_wp2_with (first | ((with_reducible refine gate_dst (N := 1) rfl ?_); refine box_event ?hg (N := 1) ?hd (cs := #[.int .i64 a0_0, .slice A0_1 l0_1.length c0_1, .slice A0_2 l0_2.length c0_2]) (t := 27) ?hr ?_; (case hd => rfl); (case hg => rfl); (case hr => first | (go_simp; done) | (go_simp; rfl)); intro gb563 hg w13 hbox hb; have n_ := t4 (bz_ pB hb) (hbox) ((by rw [hg]; exact (bs_ pB) : w.heap.size ≤ gb563)) ((by rw [hg]; exact (bs_ pB) : w.heap.size ≤ gb563)); clear HB; obtain ⟨HB, BK563, GW563, GE563⟩ := n_; clear hb hbox hg) | ((with_reducible refine gate_dst (N := 2) rfl ?_); refine box_event ?hg (N := 2) ?hd (cs := #[.int .i64 0, .int .i64 0]) (t := 30) ?hr ?_; (case hd => rfl); (case hg => rfl); (case hr => first | (go_simp; done) | (go_simp; rfl)); intro gb564 hg w14 hbox hb; have n_ := t7 (blk_below (g := gb563) (o := .cells #[.int .i64 a0_0, .slice A0_1 l0_1.length c0_1, .slice A0_2 l0_2.length c0_2] 27 (0, 0)) (pK BK563) hb) (bz_ pB hb) (hbox) ((by rw [hg]; exact (bs_ pB) : w.heap.size ≤ gb564)) ((by rw [hg]; exact (bs_ pB) : w.heap.size ≤ gb564)) ((by rw [hg]; exact Nat.ne_of_lt (blk_lt (g := gb563) (o := .cells #[.int .i64 a0_0, .slice A0_1 l0_1.length c0_1, .slice A0_2 l0_2.length c0_2] 27 (0, 0)) (pK BK563)) : gb563 ≠ gb564)) ((by rw [hg]; exact Nat.ne_of_gt (blk_lt (g := gb563) (o := .cells #[.int .i64 a0_0, .slice A0_1 l0_1.length c0_1, .slice A0_2 l0_2.length c0_2] 27 (0, 0)) (pK BK563)) : gb564 ≠ gb563)); clear BK563 HB; obtain ⟨BK563, HB, BK564, GW564, GE564, NB563_564, NB564_563⟩ := n_; clear hb hbox hg; have hnb15 := NB563_564.out; have hnc15 := NB564_563.out; have hcz16_0 : w14.cell? ⟨gb563, 0, none⟩ = some (.int .i64 a0_0) := (blk_cell BK563.out 0).trans rfl; have hcz16_1 : w14.cell? ⟨gb563, 1, none⟩ = some (.slice A0_1 l0_1.length c0_1) := (blk_cell BK563.out 1).trans rfl; have hcz16_2 : w14.cell? ⟨gb563, 2, none⟩ = some (.slice A0_2 l0_2.length c0_2) := (blk_cell BK563.out 2).trans rfl; have hfz16_0 := blk_frozen BK563.out 0; have hfz16_1 := blk_frozen BK563.out 1; have hfz16_2 := blk_frozen BK563.out 2) | ((with_reducible refine gC (f := 53) rfl ?_); refine goesL_ (some 4) rfl rfl Try.func53 (by kernel_rfl) rfl #[.pointer (some _)] rfl pA ?_; (refine Calls.mono (spec_l3Fault.calls k a0_0 _ _ l0_1 _ _ l0_2 t565 _ ?side1 ?side2 ?side3 ?side4 A2.out (hpp0_0 := by first | (with_unfolding_all assumption) | (dsimp only; assumption) | (dsimp only [Nat.zero_add]; exact (blk_cell (Aside0.out (by assumption)) _).trans rfl) | (go_simp; done)) (hpp0_1 := by first | (with_unfolding_all assumption) | (dsimp only; assumption) | (dsimp only [Nat.zero_add]; exact (blk_cell (Aside0.out (by assumption)) _).trans rfl) | (go_simp; done)) (hpp0_2 := by first | (with_unfolding_all assumption) | (dsimp only; assumption) | (dsimp only [Nat.zero_add]; exact (blk_cell (Aside0.out (by assumption)) _).trans rfl) | (go_simp; done))) ?_); (case side1 => exact pC (Kd.C_below HR0_1.out HB.out)); (case side2 => exact HC0_1.out); (case side3 => exact pC (Kd.C_below HR0_2.out HB.out)); (case side4 => exact HC0_2.out); rintro e w17 ⟨rfl, hb⟩; refine ⟨_, rfl, ?_⟩; have n_ := t3 (blk_below (g := gb563) (o := .cells #[.int .i64 a0_0, .slice A0_1 l0_1.length c0_1, .slice A0_2 l0_2.length c0_2] 27 (0, 0)) (pK BK563) hb) (blk_below (g := gb564) (o := .cells #[.int .i64 0, .int .i64 0] 30 (0, 0)) (pK BK564) hb) (bz_ pB hb); clear BK563 BK564 HB; obtain ⟨BK563, BK564, HB⟩ := n_; (try clear hb); have hcz18_0 : w17.cell? ⟨gb564, 0, none⟩ = some (.int .i64 0) := (blk_cell BK564.out 0).trans rfl; have hcz18_1 : w17.cell? ⟨gb564, 1, none⟩ = some (.int .i64 0) := (blk_cell BK564.out 1).trans rfl; have hfz18_0 := blk_frozen BK564.out 0; have hfz18_1 := blk_frozen BK564.out 1))
   refine bodyPost_ret (results_cell_row rfl _ _ gb564 30 #[.int .i64 t565, .int .i64 0] (0, 0) _ rfl (by (with_reducible repeat (first | refine blk_drewN ?_ _ | refine blk_drew ?_ | refine blk_alloc ?_ _)); refine blk_put (cs := #[.int .i64 t565, .int .i64 0]) ?_ 1 _ rfl; (with_reducible repeat (first | refine blk_drewN ?_ _ | refine blk_drew ?_ | refine blk_alloc ?_ _)); refine blk_put (cs := #[.int .i64 0, .int .i64 0]) ?_ 0 _ rfl; (with_reducible repeat (first | refine blk_drewN ?_ _ | refine blk_drew ?_ | refine blk_alloc ?_ _)); exact BK564.out) Try.underlying30 rfl (by kernel_rfl)) rfl ?_
   exact ⟨pE, pB⟩
def impl_SumOf.f (k : Nat) (l0 : List Int) : Option (Int × Int) := if (l0.length : Int) > 4000 then (some (2, 0)) else ((impl_sumOf.f k l0).bind fun t568 => (some (0, t568)))
theorem impl_SumOf.mono : ∀ a0 k, LeO (impl_SumOf.f k a0) (impl_SumOf.f (k + 1) a0) := by
 intro a0 k
 unfold impl_SumOf.f
 repeat' with_reducible first | exact impl_sumOf.mono _ _ | exact LeO.refl _ | exact LeO.none _ | refine LeO.ite ?_ ?_ | refine LeO.bind ?_ (fun _ => ?_)
theorem impl_SumOf.calls (k : Nat) (A0 : Option Addr) (c0 : Nat) (l0 : List Int) (r1 : Int) (r2 : Int) (w : World) (hr0 : Kd.C (Kd.int .u8) w A0 l0.length l0) (hc0 : l0.length ≤ c0) (h : impl_SumOf.f k l0 = some (r1, r2)) :
 Calls Try.prog 14 #[.slice A0 l0.length c0] w fun e w' => e = .returned (.agg #[.int .i64 r1, .int .i64 r2]) ∧ Below w.heap.size w w' := by
 have hu30 := Try.underlying30
 have HR0 := am hr0; have HC0 := am hc0; clear hr0 hc0
 have HB := am (Below.refl w.heap.size w)
 have H : (if (l0.length : Int) > 4000 then (some (2, 0)) else ((impl_sumOf.f k l0).bind fun t568 => (some (0, t568)))) = some (r1, r2) := h
 clear h
 by_cases c2 : (l0.length : Int) > 4000
 · rw [if_pos c2] at H
   have c2b0 : decide (4000 < (l0.length : Int)) = true := dt c2
   have c2b1 : decide (4000 < l0.length) = true := dt (by omega)
   clear c2
   simp only [Option.some.injEq, Prod.mk.injEq] at H
   obtain ⟨rfl, rfl⟩ := H
   go_enter Try.func14, Try.ntmps14
   go_wp2_with (first | ((with_reducible refine gate_dst (N := 2) rfl ?_); refine box_event ?hg (N := 2) ?hd (cs := #[.int .i64 0, .int .i64 0]) (t := 30) ?hr ?_; (case hd => rfl); (case hg => rfl); (case hr => first | (go_simp; done) | (go_simp; rfl)); intro gb567 hg w3 hbox hb; have n_ := t4 (bz_ pB hb) (hbox) ((by rw [hg]; exact (bs_ pB) : w.heap.size ≤ gb567)) ((by rw [hg]; exact (bs_ pB) : w.heap.size ≤ gb567)); clear HB; obtain ⟨HB, BK567, GW567, GE567⟩ := n_; clear hb hbox hg; have hcz4_0 : w3.cell? ⟨gb567, 0, none⟩ = some (.int .i64 0) := (blk_cell BK567.out 0).trans rfl; have hcz4_1 : w3.cell? ⟨gb567, 1, none⟩ = some (.int .i64 0) := (blk_cell BK567.out 1).trans rfl; have hfz4_0 := blk_frozen BK567.out 0; have hfz4_1 := blk_frozen BK567.out 1))
   refine bodyPost_ret (results_cell_row rfl _ _ gb567 30 #[.int .i64 2, .int .i64 0] (0, 0) _ rfl (by (with_reducible repeat (first | refine blk_drewN ?_ _ | refine blk_drew ?_ | refine blk_alloc ?_ _)); refine blk_put (cs := #[.int .i64 2, .int .i64 0]) ?_ 1 _ rfl; (with_reducible repeat (first | refine blk_drewN ?_ _ | refine blk_drew ?_ | refine blk_alloc ?_ _)); refine blk_put (cs := #[.int .i64 0, .int .i64 0]) ?_ 0 _ rfl; (with_reducible repeat (first | refine blk_drewN ?_ _ | refine blk_drew ?_ | refine blk_alloc ?_ _)); exact BK567.out) Try.underlying30 rfl (by kernel_rfl)) rfl ?_
   exact ⟨pE, pB⟩
 · rw [if_neg c2] at H
   have c2b0 : decide (4000 < (l0.length : Int)) = false := decide_eq_false c2
   have c2b1 : decide (4000 < l0.length) = false := decide_eq_false (by omega)
   clear c2
   obtain ⟨t568, A50, H⟩ := bO H
   replace H : (some (0, t568)) = some (r1, r2) := H
   have A5 := am A50; clear A50
   simp only [Option.some.injEq, Prod.mk.injEq] at H
   obtain ⟨rfl, rfl⟩ := H
   go_enter Try.func14, Try.ntmps14
   go_wp2_with (first | ((with_reducible refine gate_dst (N := 2) rfl ?_); refine box_event ?hg (N := 2) ?hd (cs := #[.int .i64 0, .int .i64 0]) (t := 30) ?hr ?_; (case hd => rfl); (case hg => rfl); (case hr => first | (go_simp; done) | (go_simp; rfl)); intro gb567 hg w6 hbox hb; have n_ := t4 (bz_ pB hb) (hbox) ((by rw [hg]; exact (bs_ pB) : w.heap.size ≤ gb567)) ((by rw [hg]; exact (bs_ pB) : w.heap.size ≤ gb567)); clear HB; obtain ⟨HB, BK567, GW567, GE567⟩ := n_; clear hb hbox hg) | ((with_reducible refine gC (f := 55) rfl ?_); refine goesL_ (some 8) rfl rfl Try.func55 (by kernel_rfl) rfl #[.slice A0 l0.length c0] rfl pA ?_; (with_reducible refine (impl_sumOf.calls k _ _ l0 t568 _ ?side1 ?side2 A5.out).mono ?_); (case side1 => exact pC (Kd.C_below HR0.out HB.out)); (case side2 => exact HC0.out); rintro e w' ⟨rfl, ⟨nd, rfl⟩⟩; refine ⟨_, rfl, ?_⟩; (try (rw [drewN_self w6]; generalize hq_ : World.drewN w6 _ = w6; have n0_ : Aside0 (w6.heap[gb567]? = some (.cells #[.int .i64 0, .int .i64 0] 30 (0, 0))) := ⟨by rw [← hq_]; exact (pK BK567)⟩; have n1_ : Aside0 (Below w.heap.size w w6) := ⟨by rw [← hq_]; exact pB⟩; clear BK567 HB hq_; have BK567 := n0_; have HB := n1_; clear n0_ n1_)); have hcz7_0 : w6.cell? ⟨gb567, 0, none⟩ = some (.int .i64 0) := (blk_cell BK567.out 0).trans rfl; have hcz7_1 : w6.cell? ⟨gb567, 1, none⟩ = some (.int .i64 0) := (blk_cell BK567.out 1).trans rfl; have hfz7_0 := blk_frozen BK567.out 0; have hfz7_1 := blk_frozen BK567.out 1))
   refine bodyPost_ret (results_cell_row rfl _ _ gb567 30 #[.int .i64 0, .int .i64 t568] (0, 0) _ rfl (by (with_reducible repeat (first | refine blk_drewN ?_ _ | refine blk_drew ?_ | refine blk_alloc ?_ _)); refine blk_put (cs := #[.int .i64 0, .int .i64 0]) ?_ 1 _ rfl; (with_reducible repeat (first | refine blk_drewN ?_ _ | refine blk_drew ?_ | refine blk_alloc ?_ _)); refine blk_put (cs := #[.int .i64 0, .int .i64 0]) ?_ 0 _ rfl; (with_reducible repeat (first | refine blk_drewN ?_ _ | refine blk_drew ?_ | refine blk_alloc ?_ _)); exact BK567.out) Try.underlying30 rfl (by kernel_rfl)) rfl ?_
   exact ⟨pE, pB⟩
def impl_PackTx.f (k : Nat) (a0_0 : Int) (l0_1 : List (S34)) (l0_2 : List (S86)) : Option (Int × List Int) := (impl_TxFault.f k a0_0 l0_1 l0_2).bind fun t571 => (if t571 = 0 then ((impl_packTx.f k a0_0 l0_1 l0_2).bind fun t572 => (some (0, t572))) else (some (t571, ([] : List Int))))
theorem impl_PackTx.mono : ∀ a0 a1 a2 k, LeO (impl_PackTx.f k a0 a1 a2) (impl_PackTx.f (k + 1) a0 a1 a2) := by
 intro a0 a1 a2 k
 unfold impl_PackTx.f
 repeat' with_reducible first | exact impl_TxFault.mono _ _ _ _ | exact impl_packTx.mono _ _ _ _ | exact LeO.refl _ | exact LeO.none _ | refine LeO.ite ?_ ?_ | refine LeO.bind ?_ (fun _ => ?_)
theorem impl_PackTx.calls (k : Nat) (a0_0 : Int) (A0_1 : Option Addr) (c0_1 : Nat) (l0_1 : List (S34)) (A0_2 : Option Addr) (c0_2 : Nat) (l0_2 : List (S86)) (r1 : Int) (r2 : List Int) (w : World) (hr0_1 : Kd.C k34 w A0_1 l0_1.length l0_1) (hc0_1 : l0_1.length ≤ c0_1) (hr0_2 : Kd.C k86 w A0_2 l0_2.length l0_2) (hc0_2 : l0_2.length ≤ c0_2) (h : impl_PackTx.f k a0_0 l0_1 l0_2 = some (r1, r2)) :
 Calls Try.prog 15 #[.agg #[.int .i64 a0_0, .slice A0_1 l0_1.length c0_1, .slice A0_2 l0_2.length c0_2]] w fun e w' => ∃ v1_ : Value, e = .returned (.agg #[.int .i64 r1, v1_]) ∧ Kd.R (Kd.int .u8) 5 w' w.heap.size (fun _ => True) v1_ r2 ∧ Below w.heap.size w w' := by
 have hu27 := Try.underlying27
 have hu37 := Try.underlying37
 have HR0_1 := am hr0_1; have HC0_1 := am hc0_1; clear hr0_1 hc0_1; have HR0_2 := am hr0_2; have HC0_2 := am hc0_2; clear hr0_2 hc0_2
 have HB := am (Below.refl w.heap.size w)
 have H : ((impl_TxFault.f k a0_0 l0_1 l0_2).bind fun t571 => (if t571 = 0 then ((impl_packTx.f k a0_0 l0_1 l0_2).bind fun t572 => (some (0, t572))) else (some (t571, ([] : List Int))))) = some (r1, r2) := h
 clear h
 obtain ⟨t571, A20, H⟩ := bO H
 replace H : (if t571 = 0 then ((impl_packTx.f k a0_0 l0_1 l0_2).bind fun t572 => (some (0, t572))) else (some (t571, ([] : List Int)))) = some (r1, r2) := H
 have A2 := am A20; clear A20
 by_cases c3 : t571 = 0
 · rw [if_pos c3] at H
   have c3b0 : (t571 == 0) = true := beq_iff_eq.mpr c3
   have c3b1 : (t571 != 0) = false := bne_eq_false_iff_eq.mpr c3
   clear c3
   obtain ⟨t572, A40, H⟩ := bO H
   replace H : (some (0, t572)) = some (r1, r2) := H
   have A4 := am A40; clear A40
   simp only [Option.some.injEq, Prod.mk.injEq] at H
   obtain ⟨rfl, rfl⟩ := H
   go_enter Try.func15, Try.ntmps15
   go_wp2_with (first | ((with_reducible refine gate_dst (N := 1) rfl ?_); refine box_event ?hg (N := 1) ?hd (cs := #[.int .i64 a0_0, .slice A0_1 l0_1.length c0_1, .slice A0_2 l0_2.length c0_2]) (t := 27) ?hr ?_; (case hd => rfl); (case hg => rfl); (case hr => first | (go_simp; done) | (go_simp; rfl)); intro gb569 hg w5 hbox hb; have n_ := t4 (bz_ pB hb) (hbox) ((by rw [hg]; exact (bs_ pB) : w.heap.size ≤ gb569)) ((by rw [hg]; exact (bs_ pB) : w.heap.size ≤ gb569)); clear HB; obtain ⟨HB, BK569, GW569, GE569⟩ := n_; clear hb hbox hg) | ((with_reducible refine gate_dst (N := 2) rfl ?_); refine box_event ?hg (N := 2) ?hd (cs := #[.int .i64 0, .slice none 0 0]) (t := 37) ?hr ?_; (case hd => rfl); (case hg => rfl); (case hr => first | (go_simp; done) | (go_simp; rfl)); intro gb570 hg w6 hbox hb; have n_ := t7 (blk_below (g := gb569) (o := .cells #[.int .i64 a0_0, .slice A0_1 l0_1.length c0_1, .slice A0_2 l0_2.length c0_2] 27 (0, 0)) (pK BK569) hb) (bz_ pB hb) (hbox) ((by rw [hg]; exact (bs_ pB) : w.heap.size ≤ gb570)) ((by rw [hg]; exact (bs_ pB) : w.heap.size ≤ gb570)) ((by rw [hg]; exact Nat.ne_of_lt (blk_lt (g := gb569) (o := .cells #[.int .i64 a0_0, .slice A0_1 l0_1.length c0_1, .slice A0_2 l0_2.length c0_2] 27 (0, 0)) (pK BK569)) : gb569 ≠ gb570)) ((by rw [hg]; exact Nat.ne_of_gt (blk_lt (g := gb569) (o := .cells #[.int .i64 a0_0, .slice A0_1 l0_1.length c0_1, .slice A0_2 l0_2.length c0_2] 27 (0, 0)) (pK BK569)) : gb570 ≠ gb569)); clear BK569 HB; obtain ⟨BK569, HB, BK570, GW570, GE570, NB569_570, NB570_569⟩ := n_; clear hb hbox hg; have hnb7 := NB569_570.out; have hnc7 := NB570_569.out; have hcz8_0 : w6.cell? ⟨gb569, 0, none⟩ = some (.int .i64 a0_0) := (blk_cell BK569.out 0).trans rfl; have hcz8_1 : w6.cell? ⟨gb569, 1, none⟩ = some (.slice A0_1 l0_1.length c0_1) := (blk_cell BK569.out 1).trans rfl; have hcz8_2 : w6.cell? ⟨gb569, 2, none⟩ = some (.slice A0_2 l0_2.length c0_2) := (blk_cell BK569.out 2).trans rfl; have hfz8_0 := blk_frozen BK569.out 0; have hfz8_1 := blk_frozen BK569.out 1; have hfz8_2 := blk_frozen BK569.out 2) | ((with_reducible refine gC (f := 16) rfl ?_); refine goesL_ (some 5) rfl rfl Try.func16 (by kernel_rfl) rfl #[.agg #[.int .i64 a0_0, .slice A0_1 l0_1.length c0_1, .slice A0_2 l0_2.length c0_2]] rfl pA ?_; (with_reducible refine (impl_TxFault.calls k a0_0 _ _ l0_1 _ _ l0_2 t571 _ ?side1 ?side2 ?side3 ?side4 A2.out).mono ?_); (case side1 => exact pC (Kd.C_below HR0_1.out HB.out)); (case side2 => exact HC0_1.out); (case side3 => exact pC (Kd.C_below HR0_2.out HB.out)); (case side4 => exact HC0_2.out); rintro e w9 ⟨rfl, hb⟩; refine ⟨_, rfl, ?_⟩; have n_ := t3 (blk_below (g := gb569) (o := .cells #[.int .i64 a0_0, .slice A0_1 l0_1.length c0_1, .slice A0_2 l0_2.length c0_2] 27 (0, 0)) (pK BK569) hb) (blk_below (g := gb570) (o := .cells #[.int .i64 0, .slice none 0 0] 37 (0, 0)) (pK BK570) hb) (bz_ pB hb); clear BK569 BK570 HB; obtain ⟨BK569, BK570, HB⟩ := n_; (try clear hb); have hcz10_0 : w9.cell? ⟨gb569, 0, none⟩ = some (.int .i64 a0_0) := (blk_cell BK569.out 0).trans rfl; have hcz10_1 : w9.cell? ⟨gb569, 1, none⟩ = some (.slice A0_1 l0_1.length c0_1) := (blk_cell BK569.out 1).trans rfl; have hcz10_2 : w9.cell? ⟨gb569, 2, none⟩ = some (.slice A0_2 l0_2.length c0_2) := (blk_cell BK569.out 2).trans rfl; have hfz10_0 := blk_frozen BK569.out 0; have hfz10_1 := blk_frozen BK569.out 1; have hfz10_2 := blk_frozen BK569.out 2) | ((with_reducible refine gC (f := 56) rfl ?_); refine goesL_ (some 11) rfl rfl Try.func56 (by kernel_rfl) rfl #[.agg #[.int .i64 a0_0, .slice A0_1 l0_1.length c0_1, .slice A0_2 l0_2.length c0_2]] rfl pA ?_; (with_reducible refine (impl_packTx.calls k a0_0 _ _ l0_1 _ _ l0_2 t572 _ ?side1 ?side2 ?side3 ?side4 A4.out).mono ?_); (case side1 => exact pC (Kd.C_below HR0_1.out HB.out)); (case side2 => exact HC0_1.out); (case side3 => exact pC (Kd.C_below HR0_2.out HB.out)); (case side4 => exact HC0_2.out); rintro e w11 ⟨v573, rfl, ho0, hb⟩; refine ⟨_, rfl, ?_⟩; have n_ := t4 (rL ho0 (bs_ pB)) (blk_below (g := gb569) (o := .cells #[.int .i64 a0_0, .slice A0_1 l0_1.length c0_1, .slice A0_2 l0_2.length c0_2] 27 (0, 0)) (pK BK569) hb) (blk_below (g := gb570) (o := .cells #[.int .i64 0, .slice none 0 0] 37 (0, 0)) (pK BK570) hb) (bz_ pB hb); clear BK569 BK570 HB; obtain ⟨HO574, BK569, BK570, HB⟩ := n_; (try clear hb); (try clear ho0); obtain ⟨Ao12, co12, eo12⟩ := rS HO574.out; subst eo12; have hcz13_0 : w11.cell? ⟨gb570, 0, none⟩ = some (.int .i64 0) := (blk_cell BK570.out 0).trans rfl; have hcz13_1 : w11.cell? ⟨gb570, 1, none⟩ = some (.slice none 0 0) := (blk_cell BK570.out 1).trans rfl; have hfz13_0 := blk_frozen BK570.out 0; have hfz13_1 := blk_frozen BK570.out 1))
   refine bodyPost_ret (results_cell_row rfl _ _ gb570 37 #[.int .i64 0, .slice Ao12 t572.length co12] (0, 0) _ rfl (by (with_reducible repeat (first | refine blk_drewN ?_ _ | refine blk_drew ?_ | refine blk_alloc ?_ _)); refine blk_put (cs := #[.int .i64 0, .slice none 0 0]) ?_ 1 _ rfl; (with_reducible repeat (first | refine blk_drewN ?_ _ | refine blk_drew ?_ | refine blk_alloc ?_ _)); refine blk_put (cs := #[.int .i64 0, .slice none 0 0]) ?_ 0 _ rfl; (with_reducible repeat (first | refine blk_drewN ?_ _ | refine blk_drew ?_ | refine blk_alloc ?_ _)); exact BK570.out) Try.underlying37 rfl (by kernel_rfl)) rfl ?_
   exact ⟨_, pE, (pT (Kd.R_mono (Kd.R_far (p := ⟨gb570, 1, none⟩) (Kd.R_far (p := ⟨gb570, 0, none⟩) (Kd.R_types HO574.out BK570.out (by decide)) (fun _ hk => hk.2) (.int .i64 0)) (fun _ hk => hk.2) (.slice Ao12 t572.length co12)) (fun _ hk => trivial))), pB⟩
 · rw [if_neg c3] at H
   have c3b0 : (t571 == 0) = false := beq_eq_false_iff_ne.mpr c3
   have c3b1 : (t571 != 0) = true := bne_iff_ne.mpr c3
   simp only [Option.some.injEq, Prod.mk.injEq] at H
   obtain ⟨rfl, rfl⟩ := H
   go_enter Try.func15, Try.ntmps15
   go_wp2_with (first | ((with_reducible refine gate_dst (N := 1) rfl ?_); refine box_event ?hg (N := 1) ?hd (cs := #[.int .i64 a0_0, .slice A0_1 l0_1.length c0_1, .slice A0_2 l0_2.length c0_2]) (t := 27) ?hr ?_; (case hd => rfl); (case hg => rfl); (case hr => first | (go_simp; done) | (go_simp; rfl)); intro gb569 hg w14 hbox hb; have n_ := t4 (bz_ pB hb) (hbox) ((by rw [hg]; exact (bs_ pB) : w.heap.size ≤ gb569)) ((by rw [hg]; exact (bs_ pB) : w.heap.size ≤ gb569)); clear HB; obtain ⟨HB, BK569, GW569, GE569⟩ := n_; clear hb hbox hg) | ((with_reducible refine gate_dst (N := 2) rfl ?_); refine box_event ?hg (N := 2) ?hd (cs := #[.int .i64 0, .slice none 0 0]) (t := 37) ?hr ?_; (case hd => rfl); (case hg => rfl); (case hr => first | (go_simp; done) | (go_simp; rfl)); intro gb570 hg w15 hbox hb; have n_ := t7 (blk_below (g := gb569) (o := .cells #[.int .i64 a0_0, .slice A0_1 l0_1.length c0_1, .slice A0_2 l0_2.length c0_2] 27 (0, 0)) (pK BK569) hb) (bz_ pB hb) (hbox) ((by rw [hg]; exact (bs_ pB) : w.heap.size ≤ gb570)) ((by rw [hg]; exact (bs_ pB) : w.heap.size ≤ gb570)) ((by rw [hg]; exact Nat.ne_of_lt (blk_lt (g := gb569) (o := .cells #[.int .i64 a0_0, .slice A0_1 l0_1.length c0_1, .slice A0_2 l0_2.length c0_2] 27 (0, 0)) (pK BK569)) : gb569 ≠ gb570)) ((by rw [hg]; exact Nat.ne_of_gt (blk_lt (g := gb569) (o := .cells #[.int .i64 a0_0, .slice A0_1 l0_1.length c0_1, .slice A0_2 l0_2.length c0_2] 27 (0, 0)) (pK BK569)) : gb570 ≠ gb569)); clear BK569 HB; obtain ⟨BK569, HB, BK570, GW570, GE570, NB569_570, NB570_569⟩ := n_; clear hb hbox hg; have hnb16 := NB569_570.out; have hnc16 := NB570_569.out; have hcz17_0 : w15.cell? ⟨gb569, 0, none⟩ = some (.int .i64 a0_0) := (blk_cell BK569.out 0).trans rfl; have hcz17_1 : w15.cell? ⟨gb569, 1, none⟩ = some (.slice A0_1 l0_1.length c0_1) := (blk_cell BK569.out 1).trans rfl; have hcz17_2 : w15.cell? ⟨gb569, 2, none⟩ = some (.slice A0_2 l0_2.length c0_2) := (blk_cell BK569.out 2).trans rfl; have hfz17_0 := blk_frozen BK569.out 0; have hfz17_1 := blk_frozen BK569.out 1; have hfz17_2 := blk_frozen BK569.out 2) | ((with_reducible refine gC (f := 16) rfl ?_); refine goesL_ (some 5) rfl rfl Try.func16 (by kernel_rfl) rfl #[.agg #[.int .i64 a0_0, .slice A0_1 l0_1.length c0_1, .slice A0_2 l0_2.length c0_2]] rfl pA ?_; (with_reducible refine (impl_TxFault.calls k a0_0 _ _ l0_1 _ _ l0_2 t571 _ ?side1 ?side2 ?side3 ?side4 A2.out).mono ?_); (case side1 => exact pC (Kd.C_below HR0_1.out HB.out)); (case side2 => exact HC0_1.out); (case side3 => exact pC (Kd.C_below HR0_2.out HB.out)); (case side4 => exact HC0_2.out); rintro e w18 ⟨rfl, hb⟩; refine ⟨_, rfl, ?_⟩; have n_ := t3 (blk_below (g := gb569) (o := .cells #[.int .i64 a0_0, .slice A0_1 l0_1.length c0_1, .slice A0_2 l0_2.length c0_2] 27 (0, 0)) (pK BK569) hb) (blk_below (g := gb570) (o := .cells #[.int .i64 0, .slice none 0 0] 37 (0, 0)) (pK BK570) hb) (bz_ pB hb); clear BK569 BK570 HB; obtain ⟨BK569, BK570, HB⟩ := n_; (try clear hb); have hcz19_0 : w18.cell? ⟨gb570, 0, none⟩ = some (.int .i64 0) := (blk_cell BK570.out 0).trans rfl; have hcz19_1 : w18.cell? ⟨gb570, 1, none⟩ = some (.slice none 0 0) := (blk_cell BK570.out 1).trans rfl; have hfz19_0 := blk_frozen BK570.out 0; have hfz19_1 := blk_frozen BK570.out 1))
   refine bodyPost_ret (results_cell_row rfl _ _ gb570 37 #[.int .i64 t571, .slice none 0 0] (0, 0) _ rfl (by (with_reducible repeat (first | refine blk_drewN ?_ _ | refine blk_drew ?_ | refine blk_alloc ?_ _)); refine blk_put (cs := #[.int .i64 t571, .slice none 0 0]) ?_ 1 _ rfl; (with_reducible repeat (first | refine blk_drewN ?_ _ | refine blk_drew ?_ | refine blk_alloc ?_ _)); refine blk_put (cs := #[.int .i64 0, .slice none 0 0]) ?_ 0 _ rfl; (with_reducible repeat (first | refine blk_drewN ?_ _ | refine blk_drew ?_ | refine blk_alloc ?_ _)); exact BK570.out) Try.underlying37 rfl (by kernel_rfl)) rfl ?_
   exact ⟨_, pE, by first | exact Kd.R_nil _ _ _ _ _ | exact Kd.N_nil _ _ _ _ _ | exact Kd.V_nil _ _ _ _ _ | exact Kd.Q_nil _ _ _ _ _ | exact Kd.S_nil _ _ _ _ _, pB⟩
end Go.Proofs.Ythjlbpgiaehjnaa.QFnNames
