-- written by this session's program (wip/tools/myprint.py)
import Derived.Test.YthjlbpgiaehjnaaQFnExactPackTxx0
import Derived.Test.YthjlbpgiaehjnaaQFnExactPackTxx10
-- squeezed
namespace Go.Proofs.Ythjlbpgiaehjnaa.QFnExactPackTx
open Go.RowKit Go.Proofs.YthjlbpgiaehjnaaW.PrintWords Go.Proofs.YthjlbpgiaehjnaaW.PrintLast Go.Proofs.YthjlbpgiaehjnaaW.PrintMore
attribute [local go_sem] max2_int min2_int max_two min_two max_three min_three max_four min_four   -- for this text's walks alone
set_option linter.unusedVariables false
set_option linter.unusedSimpArgs false
set_option maxHeartbeats 8000000
set_option maxRecDepth 100000
def spec_l3List.l0 : Nat → List Int → List Int → Int → Option (List Int)
 | 0, _, _, _ => none
 | k + 1, x0, x3, x4 => if x4 < (x0.length : Int) then (if 0 ≤ x4 then ((spec_l3Put.f (rd x0 x4)).bind fun t355 => (if x3.length + t355.length < 140737488355328 then (spec_l3List.l0 k x0 (x3 ++ t355) (wrap64 (x4 + 1))) else (none))) else (none)) else (some x3)
def spec_l3List.f (k : Nat) (l0 : List Int) : Option (List Int) := (spec_l3Put.f (l0.length : Int)).bind fun t351 => (spec_l3List.l0 k l0 t351 0)
theorem spec_l3List.mono_l : ∀ k, (∀ y0 y1 y2, LeO (spec_l3List.l0 k y0 y1 y2) (spec_l3List.l0 (k + 1) y0 y1 y2))
 | 0 => fun _ _ _ r h => by simp [spec_l3List.l0] at h
 | k + 1 => by
  have ih0 := spec_l3List.mono_l k
  · intro y0 y1 y2
    unfold spec_l3List.l0
    repeat' with_reducible first | exact ih0 _ _ _ | exact LeO.refl _ | exact LeO.none _ | refine LeO.ite ?_ ?_ | refine LeO.bind ?_ (fun _ => ?_)
theorem spec_l3List.mono : ∀ a0 k, LeO (spec_l3List.f k a0) (spec_l3List.f (k + 1) a0) := by
 intro a0 k
 have ih0 := spec_l3List.mono_l k
 unfold spec_l3List.f
 repeat' with_reducible first | exact ih0 _ _ _ | exact LeO.refl _ | exact LeO.none _ | refine LeO.ite ?_ ?_ | refine LeO.bind ?_ (fun _ => ?_)
theorem spec_l3List.calls (k : Nat) (A0 : Option Addr) (c0 : Nat) (l0 : List Int) (r : List Int) (w : World) (hr0 : Kd.C (Kd.int .i64) w A0 l0.length l0) (hc0 : l0.length ≤ c0) (h : spec_l3List.f k l0 = some r) :
 Calls Try.prog 126 #[.slice A0 l0.length c0] w fun e w' => ∃ v0_ : Value, e = .returned (v0_) ∧ Kd.R (Kd.int .u8) 5 w' w.heap.size (fun _ => True) v0_ r ∧ Below w.heap.size w w' := by
 have HR0 := am hr0; have HC0 := am hc0; clear hr0 hc0
 have HB := am (Below.refl w.heap.size w)
 have H : ((spec_l3Put.f (l0.length : Int)).bind fun t351 => (spec_l3List.l0 k l0 t351 0)) = some r := h
 clear h
 obtain ⟨t351, A20, H⟩ := bO H
 replace H : (spec_l3List.l0 k l0 t351 0) = some r := H
 have A2 := am A20; clear A20
 have H' := am H
 clear H
 go_enter Try.func126, Try.ntmps126
 go_wp2_with (first | ((with_reducible refine gC (f := 80) rfl ?_); refine goesL_ (some 7) rfl rfl Try.func80 (by kernel_rfl) rfl #[.int .i64 (l0.length : Int)] rfl pA ?_; (with_reducible refine (spec_l3Put.calls (l0.length : Int) t351 _ A2.out).mono ?_); rintro e w3 ⟨v352, rfl, ho0, hb⟩; refine ⟨_, rfl, ?_⟩; have n_ := t2 (rL ho0 (bs_ pB)) (bz_ pB hb); clear HB; obtain ⟨HO353, HB⟩ := n_; (try clear hb); (try clear ho0)))
 go_loopg [3, 4] k (fun kq v3 v4 w' => ∃ (x3_1 : List Int) (x4_1 : Int), v4 = .int .i64 x4_1 ∧ Aside0 (spec_l3List.l0 kq l0 x3_1 x4_1 = some r) ∧ Aside0 (kq ≤ k) ∧ Aside0 (Kd.R (Kd.int .u8) 5 w' w.heap.size (fun _ => True) v3 x3_1) ∧ Aside0 (Below w.heap.size w w'))
 case atStart => exact ⟨(t351), (0), pF, H', ⟨Nat.le_refl _⟩, ⟨(pR HO353)⟩, ⟨pB⟩⟩
 case round =>
  clear H'
  obtain ⟨x3_1, x4_1, rfl, HA, HK1, HO_3, HB⟩ := hrel
  cases gk with
  | zero => exact absurd HA.out (by simp [spec_l3List.l0])
  | succ k1 =>
   have H := HA.out
   clear HA
   simp only [spec_l3List.l0] at H
   by_cases c4 : x4_1 < (l0.length : Int)
   · rw [if_pos c4] at H
     have c4b0 : decide (x4_1 < (l0.length : Int)) = true := dt c4
     clear c4
     by_cases c5 : 0 ≤ x4_1
     · rw [if_pos c5] at H
       have c5b0 : decide (0 ≤ x4_1) = true := dt c5
       clear c5
       obtain ⟨t355, A60, H⟩ := bO H
       replace H : (if x3_1.length + t355.length < 140737488355328 then (spec_l3List.l0 k1 l0 (x3_1 ++ t355) (wrap64 (x4_1 + 1))) else (none)) = some r := H
       have A6 := am A60; clear A60
       by_cases c7 : x3_1.length + t355.length < 140737488355328
       · rw [if_pos c7] at H
         have LMc7 := am c7; clear c7
         obtain ⟨y358, hy358⟩ : ∃ y_ : List Int, y_ = (x3_1 ++ t355) := ⟨_, rfl⟩
         replace H : (spec_l3List.l0 k1 l0 y358 (wrap64 (x4_1 + 1))) = some r := by first | (rw [hy358]; with_reducible exact H) | (have H2_ := (Option.bind_some _ _).symm.trans H; rw [hy358]; with_reducible exact H2_) | (have H2_ := (Option.bind_some _ _).symm.trans H; with_reducible exact H2_) | with_reducible exact H | (rw [hy358]; exact H) | exact H
         have Ny358 := am hy358; clear hy358
         have H' := am H
         clear H
         have p354 : 0 ≤ (x4_1 : Int) := pD
         have q354 : x4_1 < (l0.length : Int) := pD
         obtain ⟨ad354, e354, hx354_0⟩ := Kd.at_int HR0.out x4_1 p354 q354
         cases e354; replace hx354_0 := cb HB hx354_0; replace p354 := eq_true p354; replace q354 := eq_true q354
         go_wp2_with (first | ((with_reducible refine gC (f := 80) rfl ?_); refine goesL_ (some 19) rfl rfl Try.func80 (by kernel_rfl) rfl #[.int .i64 (rd l0 x4_1)] rfl pA ?_; (with_reducible refine (spec_l3Put.calls (rd l0 x4_1) t355 _ A6.out).mono ?_); rintro e w8 ⟨v356, rfl, ho0, hb⟩; refine ⟨_, rfl, ?_⟩; have n_ := t3 (rE (pR HO_3) (rB ho0) hb) (rL (rW ho0 (Kd.R_lt (pR HO_3))) (bs_ pB)) (bz_ pB hb); clear HO_3 HB; obtain ⟨HO_3, HO357, HB⟩ := n_; (try clear hb); (try clear ho0); obtain ⟨Ao10, co10, eo10⟩ := rS HO357.out; subst eo10) | ((with_reducible refine gB (b := .append) (xs := #[.tmp 14, .tmp 19]) rfl ?_); at_builtin; refine Kd.R_append_rows (Kd.int .u8) (w0 := w) w.heap.size rfl (.tmp 14) (.tmp 19) 22 5 (.int .u8 0) 1 rfl Try.underlying22 info5 rfl (by decide) (by omega) u3 x3_1 t355 _ _ _ (fun k_ => some k_ ≠ (.slice Ao10 t355.length co10 : Value).ownBlock) (fun _ => False) rfl rfl ?aO ?aR (fun _ _ h => h) (fun _ h => h.elim) ?aF ?aB ?aS ?aL ?_; (case aR => exact pC (rr HO357.out).2.2); (case aB => exact pB); (case aF => exact (fun k_ hk => Kd.fresh' (Kd.R_lt (pR HO357)) k_ hk)); (case aO => exact (pT (Kd.R_mono HO_3.out (fun _ hk => hk.2)))); (case aS => exact (bs_ pB)); (case aL => have := LMc7.out; omega); intro v359 w9 ho hb hg hat; rw [← Ny358.out] at ho; have n_ := t3 (Kd.R_after (ok := (fun _ => True)) (pR HO357) hg hat) (hb) (ho); clear HO357 HB HO_3; obtain ⟨HO357, HB, HO360⟩ := n_; clear ho hb hg hat))
         go_roundg k1
         case measure => have := HK1.out; omega
         case rel => exact ⟨(y358), (wrap64 (x4_1 + 1)), pF, H', ⟨by have := HK1.out; omega⟩, ⟨(pT (Kd.R_mono HO360.out (fun _ hk => trivial)))⟩, ⟨pB⟩⟩
       · rw [if_neg c7] at H
         exact absurd H (by simp)
     · rw [if_neg c5] at H
       exact absurd H (by simp)
   · rw [if_neg c4] at H
     have c4b0 : decide (x4_1 < (l0.length : Int)) = false := decide_eq_false c4
     clear c4
     obtain rfl := sj H
     go_wp2
     go_ret
     exact ⟨_, pE, (pR HO_3), pB⟩
end Go.Proofs.Ythjlbpgiaehjnaa.QFnExactPackTx
