-- written by this session's program (wip/tools/myprint.py)
import Derived.Test.YthjlbpgiaehjnaaQFnExactBlockFaultx0
import Derived.Test.YthjlbpgiaehjnaaQFnExactBlockFaultx9
import Derived.Test.YthjlbpgiaehjnaaQFnExactBlockFaultx11
import Derived.Test.YthjlbpgiaehjnaaQFnExactBlockFaultx13
import Derived.Test.YthjlbpgiaehjnaaQFnExactBlockFaultx16
-- squeezed
namespace Go.Proofs.Ythjlbpgiaehjnaa.QFnExactBlockFault
open Go.RowKit Go.Proofs.YthjlbpgiaehjnaaW.PrintWords Go.Proofs.YthjlbpgiaehjnaaW.PrintLast Go.Proofs.YthjlbpgiaehjnaaW.PrintMore
attribute [local go_sem] max2_int min2_int max_two min_two max_three min_three max_four min_four   -- for this text's walks alone
set_option linter.unusedVariables false
set_option linter.unusedSimpArgs false
set_option maxHeartbeats 8000000
set_option maxRecDepth 100000
mutual
def impl_BlockFault.j0 : Nat → Bool → Int → Int → Int → Int → List (S27) → Option (Int)
 | 0, _, _, _, _, _, _ => none
 | k + 1, x8, x562000, x562001, x562002, x562003, x562004 => if x8 = true then (some 3) else ((impl_in.f (x562004.length : Int) 1 4).bind fun t566 => (if t566 = true then (impl_BlockFault.l0 k x562004 (x562004.length : Int) 0 x562000 x562001 x562002 x562003 x562004) else (some 2)))
def impl_BlockFault.l0 : Nat → List (S27) → Int → Int → Int → Int → Int → Int → List (S27) → Option (Int)
 | 0, _, _, _, _, _, _, _, _ => none
 | k + 1, x38, x39, x40, x562000, x562001, x562002, x562003, x562004 => if x40 < x39 then (if 0 ≤ x40 then (if x40 < (x38.length : Int) then ((impl_TxFault.f k ((rd_T27 x38 x40).f0) ((rd_T27 x38 x40).f1) ((rd_T27 x38 x40).f2)).bind fun t569 => (if t569 = 0 then (impl_BlockFault.l0 k x38 x39 (wrap64 (x40 + 1)) x562000 x562001 x562002 x562003 x562004) else (some t569))) else (none)) else (none)) else (impl_BlockFault.l1 k x562004 (x562004.length : Int) 0 x562000 x562001 x562002 x562003 x562004)
def impl_BlockFault.l1 : Nat → List (S27) → Int → Int → Int → Int → Int → Int → List (S27) → Option (Int)
 | 0, _, _, _, _, _, _, _, _ => none
 | k + 1, x51, x52, x53, x562000, x562001, x562002, x562003, x562004 => if x53 < x52 then (if 0 ≤ x53 then (if x53 < (x51.length : Int) then ((impl_isBase.f ((rd_T27 x51 x53).f0) ((rd_T27 x51 x53).f1) ((rd_T27 x51 x53).f2)).bind fun t572 => (if (t572 != (x53 == 0)) = true then (some 1) else (impl_BlockFault.l1 k x51 x52 (wrap64 (x53 + 1)) x562000 x562001 x562002 x562003 x562004))) else (none)) else (none)) else ((impl_txSums.f k x562000 x562001 x562002 x562003 x562004).bind fun t573 => ((impl_HasTwin.f k t573).bind fun t576 => (if t576 = true then (some 6) else (some 0))))
end
def impl_BlockFault.f (k : Nat) (a0_0 : Int) (a0_1 : Int) (a0_2 : Int) (a0_3 : Int) (l0_4 : List (S27)) : Option (Int) := (impl_isSum.f a0_0).bind fun t562 => (if t562 = true then ((impl_in.f a0_1 1 99999).bind fun t563 => (if t563 = true then ((impl_bitsOk.f a0_2).bind fun t564 => (if t564 = true then ((impl_in.f a0_3 0 65535).bind fun t565 => (impl_BlockFault.j0 k (!t565) a0_0 a0_1 a0_2 a0_3 l0_4)) else (impl_BlockFault.j0 k true a0_0 a0_1 a0_2 a0_3 l0_4))) else (impl_BlockFault.j0 k true a0_0 a0_1 a0_2 a0_3 l0_4))) else (impl_BlockFault.j0 k true a0_0 a0_1 a0_2 a0_3 l0_4))
theorem impl_BlockFault.mono_l : ∀ k, (∀ y0 y1 y2 y3 y4 y5, LeO (impl_BlockFault.j0 k y0 y1 y2 y3 y4 y5) (impl_BlockFault.j0 (k + 1) y0 y1 y2 y3 y4 y5)) ∧ (∀ y0 y1 y2 y3 y4 y5 y6 y7, LeO (impl_BlockFault.l0 k y0 y1 y2 y3 y4 y5 y6 y7) (impl_BlockFault.l0 (k + 1) y0 y1 y2 y3 y4 y5 y6 y7)) ∧ (∀ y0 y1 y2 y3 y4 y5 y6 y7, LeO (impl_BlockFault.l1 k y0 y1 y2 y3 y4 y5 y6 y7) (impl_BlockFault.l1 (k + 1) y0 y1 y2 y3 y4 y5 y6 y7))
 | 0 => ⟨fun _ _ _ _ _ _ r h => by simp [impl_BlockFault.j0] at h, fun _ _ _ _ _ _ _ _ r h => by simp [impl_BlockFault.l0] at h, fun _ _ _ _ _ _ _ _ r h => by simp [impl_BlockFault.l1] at h⟩
 | k + 1 => by
  obtain ⟨ih0, ih1, ih2⟩ := impl_BlockFault.mono_l k
  refine ⟨?_, ?_, ?_⟩
  · intro y0 y1 y2 y3 y4 y5
    unfold impl_BlockFault.j0
    repeat' with_reducible first | exact ih0 _ _ _ _ _ _ | exact ih1 _ _ _ _ _ _ _ _ | exact ih2 _ _ _ _ _ _ _ _ | exact impl_HasTwin.mono _ _ | exact impl_TxFault.mono _ _ _ _ | exact impl_txSums.mono _ _ _ _ _ _ | exact LeO.refl _ | exact LeO.none _ | refine LeO.ite ?_ ?_ | refine LeO.bind ?_ (fun _ => ?_)
  · intro y0 y1 y2 y3 y4 y5 y6 y7
    unfold impl_BlockFault.l0
    repeat' with_reducible first | exact ih0 _ _ _ _ _ _ | exact ih1 _ _ _ _ _ _ _ _ | exact ih2 _ _ _ _ _ _ _ _ | exact impl_HasTwin.mono _ _ | exact impl_TxFault.mono _ _ _ _ | exact impl_txSums.mono _ _ _ _ _ _ | exact LeO.refl _ | exact LeO.none _ | refine LeO.ite ?_ ?_ | refine LeO.bind ?_ (fun _ => ?_)
  · intro y0 y1 y2 y3 y4 y5 y6 y7
    unfold impl_BlockFault.l1
    repeat' with_reducible first | exact ih0 _ _ _ _ _ _ | exact ih1 _ _ _ _ _ _ _ _ | exact ih2 _ _ _ _ _ _ _ _ | exact impl_HasTwin.mono _ _ | exact impl_TxFault.mono _ _ _ _ | exact impl_txSums.mono _ _ _ _ _ _ | exact LeO.refl _ | exact LeO.none _ | refine LeO.ite ?_ ?_ | refine LeO.bind ?_ (fun _ => ?_)
theorem impl_BlockFault.mono : ∀ a0 a1 a2 a3 a4 k, LeO (impl_BlockFault.f k a0 a1 a2 a3 a4) (impl_BlockFault.f (k + 1) a0 a1 a2 a3 a4) := by
 intro a0 a1 a2 a3 a4 k
 obtain ⟨ih0, ih1, ih2⟩ := impl_BlockFault.mono_l k
 unfold impl_BlockFault.f
 repeat' with_reducible first | exact ih0 _ _ _ _ _ _ | exact ih1 _ _ _ _ _ _ _ _ | exact ih2 _ _ _ _ _ _ _ _ | exact impl_HasTwin.mono _ _ | exact impl_TxFault.mono _ _ _ _ | exact impl_txSums.mono _ _ _ _ _ _ | exact LeO.refl _ | exact LeO.none _ | refine LeO.ite ?_ ?_ | refine LeO.bind ?_ (fun _ => ?_)
theorem impl_BlockFault.calls (k : Nat) (a0_0 : Int) (a0_1 : Int) (a0_2 : Int) (a0_3 : Int) (A0_4 : Option Addr) (c0_4 : Nat) (l0_4 : List (S27)) (r : Int) (w : World) (hr0_4 : Kd.C k27 w A0_4 l0_4.length l0_4) (hc0_4 : l0_4.length ≤ c0_4) (h : impl_BlockFault.f k a0_0 a0_1 a0_2 a0_3 l0_4 = some r) :
 Calls Try.prog 46 #[.agg #[.int .i64 a0_0, .int .i64 a0_1, .int .i64 a0_2, .int .i64 a0_3, .slice A0_4 l0_4.length c0_4]] w fun e w' => e = .returned (.int .i64 r) ∧ Below w.heap.size w w' := by
 have hu72 := Try.underlying72
 have hu27 := Try.underlying27
 have HR0_4 := Aside0.mk hr0_4; have HC0_4 := Aside0.mk hc0_4; clear hr0_4 hc0_4
 have HB := Aside0.mk (Below.refl w.heap.size w)
 have H : ((impl_isSum.f a0_0).bind fun t562 => (if t562 = true then ((impl_in.f a0_1 1 99999).bind fun t563 => (if t563 = true then ((impl_bitsOk.f a0_2).bind fun t564 => (if t564 = true then ((impl_in.f a0_3 0 65535).bind fun t565 => (impl_BlockFault.j0 k (!t565) a0_0 a0_1 a0_2 a0_3 l0_4)) else (impl_BlockFault.j0 k true a0_0 a0_1 a0_2 a0_3 l0_4))) else (impl_BlockFault.j0 k true a0_0 a0_1 a0_2 a0_3 l0_4))) else (impl_BlockFault.j0 k true a0_0 a0_1 a0_2 a0_3 l0_4))) = some r := h
 clear h; have HC2 := Aside0.mk H; clear H
 go_enter Try.func46, Try.ntmps46
 go_upto_region 1 with (first | ((with_reducible refine gate_dst (N := 1) rfl ?_); refine box_event ?hg (N := 1) ?hd (cs := #[.int .i64 a0_0, .int .i64 a0_1, .int .i64 a0_2, .int .i64 a0_3, .slice A0_4 l0_4.length c0_4]) (t := 72) ?hr ?_; (case hd => rfl); (case hg => rfl); (case hr => first | (go_simp; done) | (go_simp; rfl)); intro gb561 hg w3 hbox hb; have n_ := t4 (below_step pB hb) (hbox) ((by rw [hg]; exact (below_size pB) : w.heap.size ≤ gb561)) ((by rw [hg]; exact (below_size pB) : w.heap.size ≤ gb561)); clear HB; obtain ⟨HB, BK561, GW561, GE561⟩ := n_; clear hb hbox hg))
 (try simp only [Act.put, List.setIfInBounds_toArray, List.set_cons_zero, List.set_cons_succ])
 go_cut [8] (fun v8 wc => ∃ (kq : Nat) (x8_1 : Bool), v8 = .bool x8_1 ∧ Aside0 (impl_BlockFault.j0 kq x8_1 a0_0 a0_1 a0_2 a0_3 l0_4 = some r) ∧ Aside0 (kq ≤ k) ∧ Aside0 (wc.heap[gb561]? = some (.cells #[.int .i64 a0_0, .int .i64 a0_1, .int .i64 a0_2, .int .i64 a0_3, (.slice A0_4 l0_4.length c0_4)] 72 (0, 0))) ∧ Aside0 (Below w.heap.size w wc))
 case first =>
  have H := HC2.out
  clear HC2
  obtain ⟨t562, A40, H⟩ := bO H
  replace H : (if t562 = true then ((impl_in.f a0_1 1 99999).bind fun t563 => (if t563 = true then ((impl_bitsOk.f a0_2).bind fun t564 => (if t564 = true then ((impl_in.f a0_3 0 65535).bind fun t565 => (impl_BlockFault.j0 k (!t565) a0_0 a0_1 a0_2 a0_3 l0_4)) else (impl_BlockFault.j0 k true a0_0 a0_1 a0_2 a0_3 l0_4))) else (impl_BlockFault.j0 k true a0_0 a0_1 a0_2 a0_3 l0_4))) else (impl_BlockFault.j0 k true a0_0 a0_1 a0_2 a0_3 l0_4)) = some r := H
  have A4 := Aside0.mk A40; clear A40
  by_cases c5 : t562 = true
  · subst c5
    have H1 : ((impl_in.f a0_1 1 99999).bind fun t563 => (if t563 = true then ((impl_bitsOk.f a0_2).bind fun t564 => (if t564 = true then ((impl_in.f a0_3 0 65535).bind fun t565 => (impl_BlockFault.j0 k (!t565) a0_0 a0_1 a0_2 a0_3 l0_4)) else (impl_BlockFault.j0 k true a0_0 a0_1 a0_2 a0_3 l0_4))) else (impl_BlockFault.j0 k true a0_0 a0_1 a0_2 a0_3 l0_4))) = some r := by rw [if_pos rfl] at H; exact H
    clear H; have H := H1; clear H1
    obtain ⟨t563, A60, H⟩ := bO H
    replace H : (if t563 = true then ((impl_bitsOk.f a0_2).bind fun t564 => (if t564 = true then ((impl_in.f a0_3 0 65535).bind fun t565 => (impl_BlockFault.j0 k (!t565) a0_0 a0_1 a0_2 a0_3 l0_4)) else (impl_BlockFault.j0 k true a0_0 a0_1 a0_2 a0_3 l0_4))) else (impl_BlockFault.j0 k true a0_0 a0_1 a0_2 a0_3 l0_4)) = some r := H
    have A6 := Aside0.mk A60; clear A60
    by_cases c7 : t563 = true
    · subst c7
      have H1 : ((impl_bitsOk.f a0_2).bind fun t564 => (if t564 = true then ((impl_in.f a0_3 0 65535).bind fun t565 => (impl_BlockFault.j0 k (!t565) a0_0 a0_1 a0_2 a0_3 l0_4)) else (impl_BlockFault.j0 k true a0_0 a0_1 a0_2 a0_3 l0_4))) = some r := by rw [if_pos rfl] at H; exact H
      clear H; have H := H1; clear H1
      obtain ⟨t564, A80, H⟩ := bO H
      replace H : (if t564 = true then ((impl_in.f a0_3 0 65535).bind fun t565 => (impl_BlockFault.j0 k (!t565) a0_0 a0_1 a0_2 a0_3 l0_4)) else (impl_BlockFault.j0 k true a0_0 a0_1 a0_2 a0_3 l0_4)) = some r := H
      have A8 := Aside0.mk A80; clear A80
      by_cases c9 : t564 = true
      · subst c9
        have H1 : ((impl_in.f a0_3 0 65535).bind fun t565 => (impl_BlockFault.j0 k (!t565) a0_0 a0_1 a0_2 a0_3 l0_4)) = some r := by rw [if_pos rfl] at H; exact H
        clear H; have H := H1; clear H1
        obtain ⟨t565, A100, H⟩ := bO H
        replace H : (impl_BlockFault.j0 k (!t565) a0_0 a0_1 a0_2 a0_3 l0_4) = some r := H
        have A10 := Aside0.mk A100; clear A100
        have H' := Aside0.mk H
        clear H
        obtain ⟨hcz11_0, hcz11_1, hcz11_2, hcz11_3, hcz11_4, hfz11_0, hfz11_1, hfz11_2, hfz11_3, hfz11_4⟩ := bx5 BK561
        go_wp2_with (first | ((with_reducible refine gate_callee (f := 91) rfl ?_); refine goesL_ (some 11) rfl rfl Try.func91 (by kernel_rfl) rfl #[.int .i64 a0_0] rfl pA ?_; (with_reducible refine (impl_isSum.calls a0_0 true _ A4.out).mono ?_); rintro e w' ⟨rfl, ⟨nd, rfl⟩⟩; refine ⟨_, rfl, ?_⟩) | (go_at_call 57; (with_reducible refine (impl_in.calls a0_1 1 99999 true _ A6.out).mono ?_); rintro e w' ⟨rfl, ⟨nd, rfl⟩⟩) | (go_at_call 92; (with_reducible refine (impl_bitsOk.calls a0_2 true _ A8.out).mono ?_); rintro e w' ⟨rfl, ⟨nd, rfl⟩⟩) | (go_at_call 57; (with_reducible refine (impl_in.calls a0_3 0 65535 t565 _ A10.out).mono ?_); rintro e w' ⟨rfl, ⟨nd, rfl⟩⟩))
        go_meet
        case rel => exact ⟨_, (!t565), pF, H', ⟨by first | omega | exact Nat.le_refl _⟩, ⟨(pK BK561)⟩, ⟨pB⟩⟩
      · replace c9 := Bool.eq_false_iff.mpr c9
        subst c9
        have H1 : (impl_BlockFault.j0 k true a0_0 a0_1 a0_2 a0_3 l0_4) = some r := by rw [if_neg (show ¬ (false = true) by decide)] at H; exact H
        clear H; have H := H1; clear H1
        have H' := Aside0.mk H
        clear H
        obtain ⟨hcz12_0, hcz12_1, hcz12_2, hcz12_3, hcz12_4, hfz12_0, hfz12_1, hfz12_2, hfz12_3, hfz12_4⟩ := bx5 BK561
        go_wp2_with (first | ((with_reducible refine gate_callee (f := 91) rfl ?_); refine goesL_ (some 11) rfl rfl Try.func91 (by kernel_rfl) rfl #[.int .i64 a0_0] rfl pA ?_; (with_reducible refine (impl_isSum.calls a0_0 true _ A4.out).mono ?_); rintro e w' ⟨rfl, ⟨nd, rfl⟩⟩; refine ⟨_, rfl, ?_⟩) | (go_at_call 57; (with_reducible refine (impl_in.calls a0_1 1 99999 true _ A6.out).mono ?_); rintro e w' ⟨rfl, ⟨nd, rfl⟩⟩) | (go_at_call 92; (with_reducible refine (impl_bitsOk.calls a0_2 false _ A8.out).mono ?_); rintro e w' ⟨rfl, ⟨nd, rfl⟩⟩))
        go_meet
        case rel => exact ⟨_, (true), pF, H', ⟨by first | omega | exact Nat.le_refl _⟩, ⟨(pK BK561)⟩, ⟨pB⟩⟩
    · replace c7 := Bool.eq_false_iff.mpr c7
      subst c7
      have H1 : (impl_BlockFault.j0 k true a0_0 a0_1 a0_2 a0_3 l0_4) = some r := by rw [if_neg (show ¬ (false = true) by decide)] at H; exact H
      clear H; have H := H1; clear H1
      have H' := Aside0.mk H
      clear H
      obtain ⟨hcz13_0, hcz13_1, hcz13_2, hcz13_3, hcz13_4, hfz13_0, hfz13_1, hfz13_2, hfz13_3, hfz13_4⟩ := bx5 BK561
      go_wp2_with (first | ((with_reducible refine gate_callee (f := 91) rfl ?_); refine goesL_ (some 11) rfl rfl Try.func91 (by kernel_rfl) rfl #[.int .i64 a0_0] rfl pA ?_; (with_reducible refine (impl_isSum.calls a0_0 true _ A4.out).mono ?_); rintro e w' ⟨rfl, ⟨nd, rfl⟩⟩; refine ⟨_, rfl, ?_⟩) | (go_at_call 57; (with_reducible refine (impl_in.calls a0_1 1 99999 false _ A6.out).mono ?_); rintro e w' ⟨rfl, ⟨nd, rfl⟩⟩))
      go_meet
      case rel => exact ⟨_, (true), pF, H', ⟨by first | omega | exact Nat.le_refl _⟩, ⟨(pK BK561)⟩, ⟨pB⟩⟩
  · replace c5 := Bool.eq_false_iff.mpr c5
    subst c5
    have H1 : (impl_BlockFault.j0 k true a0_0 a0_1 a0_2 a0_3 l0_4) = some r := by rw [if_neg (show ¬ (false = true) by decide)] at H; exact H
    clear H; have H := H1; clear H1
    have H' := Aside0.mk H
    clear H
    obtain ⟨hcz14_0, hcz14_1, hcz14_2, hcz14_3, hcz14_4, hfz14_0, hfz14_1, hfz14_2, hfz14_3, hfz14_4⟩ := bx5 BK561
    go_wp2_with (first | ((with_reducible refine gate_callee (f := 91) rfl ?_); refine goesL_ (some 11) rfl rfl Try.func91 (by kernel_rfl) rfl #[.int .i64 a0_0] rfl pA ?_; (with_reducible refine (impl_isSum.calls a0_0 false _ A4.out).mono ?_); rintro e w' ⟨rfl, ⟨nd, rfl⟩⟩; refine ⟨_, rfl, ?_⟩))
    go_meet
    case rel => exact ⟨_, (true), pF, H', ⟨by first | omega | exact Nat.le_refl _⟩, ⟨(pK BK561)⟩, ⟨pB⟩⟩
 case rest =>
  clear HC2; (try clear p2); (try clear c4); (try clear c5); (try clear c7); (try clear c9); (try clear hcz11_0); (try clear hcz11_1); (try clear hcz11_2); (try clear hcz11_3); (try clear hcz11_4); (try clear hcz12_0); (try clear hcz12_1); (try clear hcz12_2); (try clear hcz12_3); (try clear hcz12_4); (try clear hcz13_0); (try clear hcz13_1); (try clear hcz13_2); (try clear hcz13_3); (try clear hcz13_4); (try clear hcz14_0); (try clear hcz14_1); (try clear hcz14_2); (try clear hcz14_3); (try clear hcz14_4); (try clear hfz11_0); (try clear hfz11_1); (try clear hfz11_2); (try clear hfz11_3); (try clear hfz11_4); (try clear hfz12_0); (try clear hfz12_1); (try clear hfz12_2); (try clear hfz12_3); (try clear hfz12_4); (try clear hfz13_0); (try clear hfz13_1); (try clear hfz13_2); (try clear hfz13_3); (try clear hfz13_4); (try clear hfz14_0); (try clear hfz14_1); (try clear hfz14_2); (try clear hfz14_3); (try clear hfz14_4)
  obtain ⟨kq, x8_1, rfl, HA, HJ1, BK561, HB⟩ := hcut
  cases kq with
  | zero => exact absurd HA.out (by simp [impl_BlockFault.j0])
  | succ kj1 =>
   have H := HA.out
   clear HA
   simp only [impl_BlockFault.j0] at H
   by_cases c15 : x8_1 = true
   · subst c15
     have H1 : (some 3) = some r := by rw [if_pos rfl] at H; exact H
     clear H; have H := H1; clear H1
     obtain rfl := Option.some.inj H
     go_wp2
     go_ret
     exact ⟨pE, pB⟩
   · replace c15 := Bool.eq_false_iff.mpr c15
     subst c15
     have H1 : ((impl_in.f (l0_4.length : Int) 1 4).bind fun t566 => (if t566 = true then (impl_BlockFault.l0 kj1 l0_4 (l0_4.length : Int) 0 a0_0 a0_1 a0_2 a0_3 l0_4) else (some 2))) = some r := by rw [if_neg (show ¬ (false = true) by decide)] at H; exact H
     clear H; have H := H1; clear H1
     obtain ⟨t566, A160, H⟩ := bO H
     replace H : (if t566 = true then (impl_BlockFault.l0 kj1 l0_4 (l0_4.length : Int) 0 a0_0 a0_1 a0_2 a0_3 l0_4) else (some 2)) = some r := H
     have A16 := Aside0.mk A160; clear A160
     by_cases c17 : t566 = true
     · subst c17
       have H1 : (impl_BlockFault.l0 kj1 l0_4 (l0_4.length : Int) 0 a0_0 a0_1 a0_2 a0_3 l0_4) = some r := by rw [if_pos rfl] at H; exact H
       clear H; have H := H1; clear H1
       have H' := Aside0.mk H
       clear H
       obtain ⟨hcz18_0, hcz18_1, hcz18_2, hcz18_3, hcz18_4, hfz18_0, hfz18_1, hfz18_2, hfz18_3, hfz18_4⟩ := bx5 BK561
       go_wp2_with (first | ((with_reducible refine gate_callee (f := 57) rfl ?_); refine goesL_ (some 35) rfl rfl Try.func57 (by kernel_rfl) rfl #[.int .i64 (l0_4.length : Int), .int .i64 1, .int .i64 4] rfl pA ?_; (with_reducible refine (impl_in.calls (l0_4.length : Int) 1 4 true _ A16.out).mono ?_); rintro e w' ⟨rfl, ⟨nd, rfl⟩⟩; refine ⟨_, rfl, ?_⟩))
       go_loopg [40] kj1 (fun kq v40 w' => ∃ (x40_2 : Int), v40 = .int .i64 x40_2 ∧ Aside0 (impl_BlockFault.l0 kq l0_4 (l0_4.length : Int) x40_2 a0_0 a0_1 a0_2 a0_3 l0_4 = some r) ∧ Aside0 (kq ≤ kj1) ∧ Aside0 (w'.heap[gb561]? = some (.cells #[.int .i64 a0_0, .int .i64 a0_1, .int .i64 a0_2, .int .i64 a0_3, (.slice A0_4 l0_4.length c0_4)] 72 (0, 0))) ∧ Aside0 (Below w.heap.size w w'))
       case atStart => exact ⟨(0), pF, H', ⟨Nat.le_refl _⟩, ⟨(pK BK561)⟩, ⟨pB⟩⟩
       case round =>
        clear H'
        (try clear c1); (try clear p2); (try clear c4); (try clear c5); (try clear c7); (try clear c9); (try clear c15); (try clear c17); (try clear hcz11_0); (try clear hcz11_1); (try clear hcz11_2); (try clear hcz11_3); (try clear hcz11_4); (try clear hcz12_0); (try clear hcz12_1); (try clear hcz12_2); (try clear hcz12_3); (try clear hcz12_4); (try clear hcz13_0); (try clear hcz13_1); (try clear hcz13_2); (try clear hcz13_3); (try clear hcz13_4); (try clear hcz14_0); (try clear hcz14_1); (try clear hcz14_2); (try clear hcz14_3); (try clear hcz14_4); (try clear hcz18_0); (try clear hcz18_1); (try clear hcz18_2); (try clear hcz18_3); (try clear hcz18_4); (try clear hfz11_0); (try clear hfz11_1); (try clear hfz11_2); (try clear hfz11_3); (try clear hfz11_4); (try clear hfz12_0); (try clear hfz12_1); (try clear hfz12_2); (try clear hfz12_3); (try clear hfz12_4); (try clear hfz13_0); (try clear hfz13_1); (try clear hfz13_2); (try clear hfz13_3); (try clear hfz13_4); (try clear hfz14_0); (try clear hfz14_1); (try clear hfz14_2); (try clear hfz14_3); (try clear hfz14_4); (try clear hfz18_0); (try clear hfz18_1); (try clear hfz18_2); (try clear hfz18_3); (try clear hfz18_4); (try clear p2)
        obtain ⟨x40_2, rfl, HA, HK2, BK561, HB⟩ := hrel
        cases gk with
        | zero => exact absurd HA.out (by simp [impl_BlockFault.l0])
        | succ k2 =>
         have H := HA.out
         clear HA
         simp only [impl_BlockFault.l0] at H
         by_cases c19 : x40_2 < (l0_4.length : Int)
         · rw [if_pos c19] at H
           have c19b0 : decide (x40_2 < (l0_4.length : Int)) = true := decide_eq_true c19
           clear c19
           by_cases c20 : 0 ≤ x40_2
           · rw [if_pos c20] at H
             have c20b0 : decide (0 ≤ x40_2) = true := decide_eq_true c20
             clear c20
             by_cases c21 : x40_2 < (l0_4.length : Int)
             · rw [if_pos c21] at H
               have c21b0 : decide (x40_2 < (l0_4.length : Int)) = true := decide_eq_true c21
               clear c21
               obtain ⟨t569, A220, H⟩ := bO H
               replace H : (if t569 = 0 then (impl_BlockFault.l0 k2 l0_4 (l0_4.length : Int) (wrap64 (x40_2 + 1)) a0_0 a0_1 a0_2 a0_3 l0_4) else (some t569)) = some r := H
               have A22 := Aside0.mk A220; clear A220
               by_cases c23 : t569 = 0
               · rw [if_pos c23] at H
                 have c23b0 : (t569 == 0) = true := beq_iff_eq.mpr c23
                 have c23b1 : (t569 != 0) = false := bne_eq_false_iff_eq.mpr c23
                 clear c23
                 have H' := Aside0.mk H
                 clear H
                 have p567 : 0 ≤ (x40_2 : Int) := pD
                 have q567 : x40_2 < (l0_4.length : Int) := pD
                 obtain ⟨ad567, A567_1, c567_1, A567_2, c567_2, e567, hx567_0, hx567_1, hx567_2, hl567_1, hi567_1, hl567_2, hi567_2⟩ := at_T27 HR0_4.out x40_2 p567 q567
                 cases e567; replace hx567_0 := cb HB hx567_0; replace hx567_1 := cb HB hx567_1; replace hx567_2 := cb HB hx567_2; have HR567_1 := Aside0.mk hi567_1; have HC567_1 := Aside0.mk hl567_1; clear hi567_1 hl567_1; have HR567_2 := Aside0.mk hi567_2; have HC567_2 := Aside0.mk hl567_2; clear hi567_2 hl567_2; replace p567 := eq_true p567; replace q567 := eq_true q567
                 go_wp2_with (first | ((with_reducible refine gate_dst (N := 4) rfl ?_); refine box_event ?hg (N := 4) ?hd (cs := #[.int .i64 0, .slice none 0 0, .slice none 0 0]) (t := 27) ?hr ?_; (case hd => rfl); (case hg => rfl); (case hr => first | (go_simp; done) | (go_simp; rfl)); intro gb568 hg w24 hbox hb; have n_ := t7 (blk_below (g := gb561) (o := .cells #[.int .i64 a0_0, .int .i64 a0_1, .int .i64 a0_2, .int .i64 a0_3, .slice (some ad567) l0_4.length c0_4] 72 (0, 0)) (pK BK561) hb) (below_step pB hb) (hbox) ((by rw [hg]; exact (below_size pB) : w.heap.size ≤ gb568)) ((by rw [hg]; exact (below_size pB) : w.heap.size ≤ gb568)) ((by rw [hg]; exact Nat.ne_of_lt (blk_lt (g := gb561) (o := .cells #[.int .i64 a0_0, .int .i64 a0_1, .int .i64 a0_2, .int .i64 a0_3, .slice (some ad567) l0_4.length c0_4] 72 (0, 0)) (pK BK561)) : gb561 ≠ gb568)) ((by rw [hg]; exact Nat.ne_of_gt (blk_lt (g := gb561) (o := .cells #[.int .i64 a0_0, .int .i64 a0_1, .int .i64 a0_2, .int .i64 a0_3, .slice (some ad567) l0_4.length c0_4] 72 (0, 0)) (pK BK561)) : gb568 ≠ gb561)); clear BK561 HB; obtain ⟨BK561, HB, BK568, GW568, GE568, NB561_568, NB568_561⟩ := n_; clear hb hbox hg; have hnb25 := NB568_561.out; have hnc25 := NB561_568.out; have hcz26_0 : w24.cell? ⟨gb568, 0, none⟩ = some (.int .i64 0) := (blk_cell BK568.out 0).trans rfl; have hcz26_1 : w24.cell? ⟨gb568, 1, none⟩ = some (.slice none 0 0) := (blk_cell BK568.out 1).trans rfl; have hcz26_2 : w24.cell? ⟨gb568, 2, none⟩ = some (.slice none 0 0) := (blk_cell BK568.out 2).trans rfl; have hfz26_0 := blk_frozen BK568.out 0; have hfz26_1 := blk_frozen BK568.out 1; have hfz26_2 := blk_frozen BK568.out 2) | ((with_reducible refine gate_callee (f := 16) rfl ?_); refine goesL_ (some 45) rfl rfl Try.func16 (by kernel_rfl) rfl #[.agg #[.int .i64 ((rd_T27 l0_4 x40_2).f0), .slice A567_1 ((rd_T27 l0_4 x40_2).f1).length c567_1, .slice A567_2 ((rd_T27 l0_4 x40_2).f2).length c567_2]] rfl pA ?_; (with_reducible refine (impl_TxFault.calls k2 ((rd_T27 l0_4 x40_2).f0) _ _ ((rd_T27 l0_4 x40_2).f1) _ _ ((rd_T27 l0_4 x40_2).f2) t569 _ ?side1 ?side2 ?side3 ?side4 A22.out).mono ?_); (case side1 => exact Kd.C_below HR567_1.out pB); (case side2 => exact HC567_1.out); (case side3 => exact Kd.C_below HR567_2.out pB); (case side4 => exact HC567_2.out); rintro e w27 ⟨rfl, hb⟩; refine ⟨_, rfl, ?_⟩; have n_ := t3 (blk_below (g := gb561) (o := .cells #[.int .i64 a0_0, .int .i64 a0_1, .int .i64 a0_2, .int .i64 a0_3, .slice (some ad567) l0_4.length c0_4] 72 (0, 0)) (by (with_reducible repeat (first | refine blk_drewN ?_ _ | refine blk_drew ?_ | refine blk_alloc ?_ _)); refine blk_far ?_ NB561_568.out _; (with_reducible repeat (first | refine blk_drewN ?_ _ | refine blk_drew ?_ | refine blk_alloc ?_ _)); refine blk_far ?_ NB561_568.out _; (with_reducible repeat (first | refine blk_drewN ?_ _ | refine blk_drew ?_ | refine blk_alloc ?_ _)); refine blk_far ?_ NB561_568.out _; (with_reducible repeat (first | refine blk_drewN ?_ _ | refine blk_drew ?_ | refine blk_alloc ?_ _)); exact BK561.out) hb) (blk_below (g := gb568) (o := .cells #[.int .i64 ((rd_T27 l0_4 x40_2).f0), .slice A567_1 ((rd_T27 l0_4 x40_2).f1).length c567_1, .slice A567_2 ((rd_T27 l0_4 x40_2).f2).length c567_2] 27 (0, 0)) (by (with_reducible repeat (first | refine blk_drewN ?_ _ | refine blk_drew ?_ | refine blk_alloc ?_ _)); refine blk_put (cs := #[.int .i64 ((rd_T27 l0_4 x40_2).f0), .slice A567_1 ((rd_T27 l0_4 x40_2).f1).length c567_1, .slice none 0 0]) ?_ 2 _ rfl; (with_reducible repeat (first | refine blk_drewN ?_ _ | refine blk_drew ?_ | refine blk_alloc ?_ _)); refine blk_put (cs := #[.int .i64 ((rd_T27 l0_4 x40_2).f0), .slice none 0 0, .slice none 0 0]) ?_ 1 _ rfl; (with_reducible repeat (first | refine blk_drewN ?_ _ | refine blk_drew ?_ | refine blk_alloc ?_ _)); refine blk_put (cs := #[.int .i64 0, .slice none 0 0, .slice none 0 0]) ?_ 0 _ rfl; (with_reducible repeat (first | refine blk_drewN ?_ _ | refine blk_drew ?_ | refine blk_alloc ?_ _)); exact BK568.out) hb) (below_step pB hb); clear BK561 BK568 HB; obtain ⟨BK561, BK568, HB⟩ := n_; (try clear hb)))
                 go_roundg k2
                 case measure => have := HJ1.out; have := HK2.out; omega
                 case rel => exact ⟨(wrap64 (x40_2 + 1)), pF, H', ⟨by have := HJ1.out; have := HK2.out; omega⟩, ⟨(pK BK561)⟩, ⟨pB⟩⟩
               · rw [if_neg c23] at H
                 have c23b0 : (t569 == 0) = false := beq_eq_false_iff_ne.mpr c23
                 have c23b1 : (t569 != 0) = true := bne_iff_ne.mpr c23
                 obtain rfl := Option.some.inj H
                 have p567 : 0 ≤ (x40_2 : Int) := pD
                 have q567 : x40_2 < (l0_4.length : Int) := pD
                 obtain ⟨ad567, A567_1, c567_1, A567_2, c567_2, e567, hx567_0, hx567_1, hx567_2, hl567_1, hi567_1, hl567_2, hi567_2⟩ := at_T27 HR0_4.out x40_2 p567 q567
                 cases e567; replace hx567_0 := cb HB hx567_0; replace hx567_1 := cb HB hx567_1; replace hx567_2 := cb HB hx567_2; have HR567_1 := Aside0.mk hi567_1; have HC567_1 := Aside0.mk hl567_1; clear hi567_1 hl567_1; have HR567_2 := Aside0.mk hi567_2; have HC567_2 := Aside0.mk hl567_2; clear hi567_2 hl567_2; replace p567 := eq_true p567; replace q567 := eq_true q567
                 go_wp2_with (first | ((with_reducible refine gate_dst (N := 4) rfl ?_); refine box_event ?hg (N := 4) ?hd (cs := #[.int .i64 0, .slice none 0 0, .slice none 0 0]) (t := 27) ?hr ?_; (case hd => rfl); (case hg => rfl); (case hr => first | (go_simp; done) | (go_simp; rfl)); intro gb568 hg w28 hbox hb; have n_ := t7 (blk_below (g := gb561) (o := .cells #[.int .i64 a0_0, .int .i64 a0_1, .int .i64 a0_2, .int .i64 a0_3, .slice (some ad567) l0_4.length c0_4] 72 (0, 0)) (pK BK561) hb) (below_step pB hb) (hbox) ((by rw [hg]; exact (below_size pB) : w.heap.size ≤ gb568)) ((by rw [hg]; exact (below_size pB) : w.heap.size ≤ gb568)) ((by rw [hg]; exact Nat.ne_of_lt (blk_lt (g := gb561) (o := .cells #[.int .i64 a0_0, .int .i64 a0_1, .int .i64 a0_2, .int .i64 a0_3, .slice (some ad567) l0_4.length c0_4] 72 (0, 0)) (pK BK561)) : gb561 ≠ gb568)) ((by rw [hg]; exact Nat.ne_of_gt (blk_lt (g := gb561) (o := .cells #[.int .i64 a0_0, .int .i64 a0_1, .int .i64 a0_2, .int .i64 a0_3, .slice (some ad567) l0_4.length c0_4] 72 (0, 0)) (pK BK561)) : gb568 ≠ gb561)); clear BK561 HB; obtain ⟨BK561, HB, BK568, GW568, GE568, NB561_568, NB568_561⟩ := n_; clear hb hbox hg; have hnb29 := NB568_561.out; have hnc29 := NB561_568.out; have hcz30_0 : w28.cell? ⟨gb568, 0, none⟩ = some (.int .i64 0) := (blk_cell BK568.out 0).trans rfl; have hcz30_1 : w28.cell? ⟨gb568, 1, none⟩ = some (.slice none 0 0) := (blk_cell BK568.out 1).trans rfl; have hcz30_2 : w28.cell? ⟨gb568, 2, none⟩ = some (.slice none 0 0) := (blk_cell BK568.out 2).trans rfl; have hfz30_0 := blk_frozen BK568.out 0; have hfz30_1 := blk_frozen BK568.out 1; have hfz30_2 := blk_frozen BK568.out 2) | ((with_reducible refine gate_callee (f := 16) rfl ?_); refine goesL_ (some 45) rfl rfl Try.func16 (by kernel_rfl) rfl #[.agg #[.int .i64 ((rd_T27 l0_4 x40_2).f0), .slice A567_1 ((rd_T27 l0_4 x40_2).f1).length c567_1, .slice A567_2 ((rd_T27 l0_4 x40_2).f2).length c567_2]] rfl pA ?_; (with_reducible refine (impl_TxFault.calls k2 ((rd_T27 l0_4 x40_2).f0) _ _ ((rd_T27 l0_4 x40_2).f1) _ _ ((rd_T27 l0_4 x40_2).f2) t569 _ ?side1 ?side2 ?side3 ?side4 A22.out).mono ?_); (case side1 => exact Kd.C_below HR567_1.out pB); (case side2 => exact HC567_1.out); (case side3 => exact Kd.C_below HR567_2.out pB); (case side4 => exact HC567_2.out); rintro e w31 ⟨rfl, hb⟩; refine ⟨_, rfl, ?_⟩; have n_ := t3 (blk_below (g := gb561) (o := .cells #[.int .i64 a0_0, .int .i64 a0_1, .int .i64 a0_2, .int .i64 a0_3, .slice (some ad567) l0_4.length c0_4] 72 (0, 0)) (by (with_reducible repeat (first | refine blk_drewN ?_ _ | refine blk_drew ?_ | refine blk_alloc ?_ _)); refine blk_far ?_ NB561_568.out _; (with_reducible repeat (first | refine blk_drewN ?_ _ | refine blk_drew ?_ | refine blk_alloc ?_ _)); refine blk_far ?_ NB561_568.out _; (with_reducible repeat (first | refine blk_drewN ?_ _ | refine blk_drew ?_ | refine blk_alloc ?_ _)); refine blk_far ?_ NB561_568.out _; (with_reducible repeat (first | refine blk_drewN ?_ _ | refine blk_drew ?_ | refine blk_alloc ?_ _)); exact BK561.out) hb) (blk_below (g := gb568) (o := .cells #[.int .i64 ((rd_T27 l0_4 x40_2).f0), .slice A567_1 ((rd_T27 l0_4 x40_2).f1).length c567_1, .slice A567_2 ((rd_T27 l0_4 x40_2).f2).length c567_2] 27 (0, 0)) (by (with_reducible repeat (first | refine blk_drewN ?_ _ | refine blk_drew ?_ | refine blk_alloc ?_ _)); refine blk_put (cs := #[.int .i64 ((rd_T27 l0_4 x40_2).f0), .slice A567_1 ((rd_T27 l0_4 x40_2).f1).length c567_1, .slice none 0 0]) ?_ 2 _ rfl; (with_reducible repeat (first | refine blk_drewN ?_ _ | refine blk_drew ?_ | refine blk_alloc ?_ _)); refine blk_put (cs := #[.int .i64 ((rd_T27 l0_4 x40_2).f0), .slice none 0 0, .slice none 0 0]) ?_ 1 _ rfl; (with_reducible repeat (first | refine blk_drewN ?_ _ | refine blk_drew ?_ | refine blk_alloc ?_ _)); refine blk_put (cs := #[.int .i64 0, .slice none 0 0, .slice none 0 0]) ?_ 0 _ rfl; (with_reducible repeat (first | refine blk_drewN ?_ _ | refine blk_drew ?_ | refine blk_alloc ?_ _)); exact BK568.out) hb) (below_step pB hb); clear BK561 BK568 HB; obtain ⟨BK561, BK568, HB⟩ := n_; (try clear hb)))
                 go_ret
                 exact ⟨pE, pB⟩
             · rw [if_neg c21] at H
               exact absurd H (by simp)
           · rw [if_neg c20] at H
             exact absurd H (by simp)
         · rw [if_neg c19] at H
           have c19b0 : decide (x40_2 < (l0_4.length : Int)) = false := decide_eq_false c19
           clear c19
           have H' := Aside0.mk H
           clear H
           obtain ⟨hcz32_0, hcz32_1, hcz32_2, hcz32_3, hcz32_4, hfz32_0, hfz32_1, hfz32_2, hfz32_3, hfz32_4⟩ := bx5 BK561
           go_wp2
           go_loopg [53] k2 (fun kq v53 w' => ∃ (x53_3 : Int), v53 = .int .i64 x53_3 ∧ Aside0 (impl_BlockFault.l1 kq l0_4 (l0_4.length : Int) x53_3 a0_0 a0_1 a0_2 a0_3 l0_4 = some r) ∧ Aside0 (kq ≤ k2) ∧ Aside0 (w'.heap[gb561]? = some (.cells #[.int .i64 a0_0, .int .i64 a0_1, .int .i64 a0_2, .int .i64 a0_3, (.slice A0_4 l0_4.length c0_4)] 72 (0, 0))) ∧ Aside0 (Below w.heap.size w w'))
           case atStart => exact ⟨(0), pF, H', ⟨Nat.le_refl _⟩, ⟨(pK BK561)⟩, ⟨pB⟩⟩
           case round =>
            clear H'
            (try clear c1); (try clear c2); (try clear p2); (try clear c4); (try clear c5); (try clear p5); (try clear q5); (try clear hx5); (try clear p6); (try clear c7); (try clear c9); (try clear c15); (try clear c16); (try clear c17); (try clear c19); (try clear c19b0); (try clear c20); (try clear c20b0); (try clear c21); (try clear c21b0); (try clear c23); (try clear c23b0); (try clear c23b1); (try clear c25); (try clear c29); (try clear hcz11_0); (try clear hcz11_1); (try clear hcz11_2); (try clear hcz11_3); (try clear hcz11_4); (try clear hcz12_0); (try clear hcz12_1); (try clear hcz12_2); (try clear hcz12_3); (try clear hcz12_4); (try clear hcz13_0); (try clear hcz13_1); (try clear hcz13_2); (try clear hcz13_3); (try clear hcz13_4); (try clear hcz14_0); (try clear hcz14_1); (try clear hcz14_2); (try clear hcz14_3); (try clear hcz14_4); (try clear hcz18_0); (try clear hcz18_1); (try clear hcz18_2); (try clear hcz18_3); (try clear hcz18_4); (try clear hcz26_0); (try clear hcz26_1); (try clear hcz26_2); (try clear hcz30_0); (try clear hcz30_1); (try clear hcz30_2); (try clear hcz32_0); (try clear hcz32_1); (try clear hcz32_2); (try clear hcz32_3); (try clear hcz32_4); (try clear hfz11_0); (try clear hfz11_1); (try clear hfz11_2); (try clear hfz11_3); (try clear hfz11_4); (try clear hfz12_0); (try clear hfz12_1); (try clear hfz12_2); (try clear hfz12_3); (try clear hfz12_4); (try clear hfz13_0); (try clear hfz13_1); (try clear hfz13_2); (try clear hfz13_3); (try clear hfz13_4); (try clear hfz14_0); (try clear hfz14_1); (try clear hfz14_2); (try clear hfz14_3); (try clear hfz14_4); (try clear hfz18_0); (try clear hfz18_1); (try clear hfz18_2); (try clear hfz18_3); (try clear hfz18_4); (try clear hfz26_0); (try clear hfz26_1); (try clear hfz26_2); (try clear hfz30_0); (try clear hfz30_1); (try clear hfz30_2); (try clear hfz32_0); (try clear hfz32_1); (try clear hfz32_2); (try clear hfz32_3); (try clear hfz32_4); (try clear hx567_0); (try clear hx567_1); (try clear hx567_2); (try clear p2); (try clear p567); (try clear q567)
            obtain ⟨x53_3, rfl, HA, HK3, BK561, HB⟩ := hrel
            cases gk with
            | zero => exact absurd HA.out (by simp [impl_BlockFault.l1])
            | succ k3 =>
             have H := HA.out
             clear HA
             simp only [impl_BlockFault.l1] at H
             by_cases c33 : x53_3 < (l0_4.length : Int)
             · rw [if_pos c33] at H
               have c33b0 : decide (x53_3 < (l0_4.length : Int)) = true := decide_eq_true c33
               clear c33
               by_cases c34 : 0 ≤ x53_3
               · rw [if_pos c34] at H
                 have c34b0 : decide (0 ≤ x53_3) = true := decide_eq_true c34
                 clear c34
                 by_cases c35 : x53_3 < (l0_4.length : Int)
                 · rw [if_pos c35] at H
                   have c35b0 : decide (x53_3 < (l0_4.length : Int)) = true := decide_eq_true c35
                   clear c35
                   obtain ⟨t572, A360, H⟩ := bO H
                   replace H : (if (t572 != (x53_3 == 0)) = true then (some 1) else (impl_BlockFault.l1 k3 l0_4 (l0_4.length : Int) (wrap64 (x53_3 + 1)) a0_0 a0_1 a0_2 a0_3 l0_4)) = some r := H
                   have A36 := Aside0.mk A360; clear A360
                   by_cases c37 : (t572 != (x53_3 == 0)) = true
                   · rw [if_pos c37] at H
                     have c37b0 : (t572 != (x53_3 == 0)) = true := c37
                     (try (have c37b1 : decide (t572 = (x53_3 == 0)) = false := by simpa using c37))
                     (try (have c37b2 : (t572 == (x53_3 == 0)) = false := by simpa using c37))
                     (try (have c37b3 : ¬ (t572 = (x53_3 == 0)) := by simpa using c37))
                     clear c37
                     obtain rfl := Option.some.inj H
                     have p570 : 0 ≤ (x53_3 : Int) := pD
                     have q570 : x53_3 < (l0_4.length : Int) := pD
                     obtain ⟨ad570, A570_1, c570_1, A570_2, c570_2, e570, hx570_0, hx570_1, hx570_2, hl570_1, hi570_1, hl570_2, hi570_2⟩ := at_T27 HR0_4.out x53_3 p570 q570
                     cases e570; replace hx570_0 := cb HB hx570_0; replace hx570_1 := cb HB hx570_1; replace hx570_2 := cb HB hx570_2; have HR570_1 := Aside0.mk hi570_1; have HC570_1 := Aside0.mk hl570_1; clear hi570_1 hl570_1; have HR570_2 := Aside0.mk hi570_2; have HC570_2 := Aside0.mk hl570_2; clear hi570_2 hl570_2; replace p570 := eq_true p570; replace q570 := eq_true q570
                     go_wp2_with (first | ((with_reducible refine gate_dst (N := 7) rfl ?_); refine box_event ?hg (N := 7) ?hd (cs := #[.int .i64 0, .slice none 0 0, .slice none 0 0]) (t := 27) ?hr ?_; (case hd => rfl); (case hg => rfl); (case hr => first | (go_simp; done) | (go_simp; rfl)); intro gb571 hg w38 hbox hb; have n_ := t7 (blk_below (g := gb561) (o := .cells #[.int .i64 a0_0, .int .i64 a0_1, .int .i64 a0_2, .int .i64 a0_3, .slice (some ad570) l0_4.length c0_4] 72 (0, 0)) (pK BK561) hb) (below_step pB hb) (hbox) ((by rw [hg]; exact (below_size pB) : w.heap.size ≤ gb571)) ((by rw [hg]; exact (below_size pB) : w.heap.size ≤ gb571)) ((by rw [hg]; exact Nat.ne_of_lt (blk_lt (g := gb561) (o := .cells #[.int .i64 a0_0, .int .i64 a0_1, .int .i64 a0_2, .int .i64 a0_3, .slice (some ad570) l0_4.length c0_4] 72 (0, 0)) (pK BK561)) : gb561 ≠ gb571)) ((by rw [hg]; exact Nat.ne_of_gt (blk_lt (g := gb561) (o := .cells #[.int .i64 a0_0, .int .i64 a0_1, .int .i64 a0_2, .int .i64 a0_3, .slice (some ad570) l0_4.length c0_4] 72 (0, 0)) (pK BK561)) : gb571 ≠ gb561)); clear BK561 HB; obtain ⟨BK561, HB, BK571, GW571, GE571, NB561_571, NB571_561⟩ := n_; clear hb hbox hg; have hnb39 := NB571_561.out; have hnc39 := NB561_571.out; have hcz40_0 : w38.cell? ⟨gb571, 0, none⟩ = some (.int .i64 0) := (blk_cell BK571.out 0).trans rfl; have hcz40_1 : w38.cell? ⟨gb571, 1, none⟩ = some (.slice none 0 0) := (blk_cell BK571.out 1).trans rfl; have hcz40_2 : w38.cell? ⟨gb571, 2, none⟩ = some (.slice none 0 0) := (blk_cell BK571.out 2).trans rfl; have hfz40_0 := blk_frozen BK571.out 0; have hfz40_1 := blk_frozen BK571.out 1; have hfz40_2 := blk_frozen BK571.out 2) | ((with_reducible refine gate_callee (f := 93) rfl ?_); refine goesL_ (some 59) rfl rfl Try.func93 (by kernel_rfl) rfl #[.agg #[.int .i64 ((rd_T27 l0_4 x53_3).f0), .slice A570_1 ((rd_T27 l0_4 x53_3).f1).length c570_1, .slice A570_2 ((rd_T27 l0_4 x53_3).f2).length c570_2]] rfl pA ?_; (with_reducible refine (impl_isBase.calls ((rd_T27 l0_4 x53_3).f0) _ _ ((rd_T27 l0_4 x53_3).f1) _ _ ((rd_T27 l0_4 x53_3).f2) t572 _ ?side1 ?side2 ?side3 ?side4 A36.out).mono ?_); (case side1 => exact Kd.C_below HR570_1.out pB); (case side2 => exact HC570_1.out); (case side3 => exact Kd.C_below HR570_2.out pB); (case side4 => exact HC570_2.out); rintro e w41 ⟨rfl, hb⟩; refine ⟨_, rfl, ?_⟩; have n_ := t3 (blk_below (g := gb561) (o := .cells #[.int .i64 a0_0, .int .i64 a0_1, .int .i64 a0_2, .int .i64 a0_3, .slice (some ad570) l0_4.length c0_4] 72 (0, 0)) (by (with_reducible repeat (first | refine blk_drewN ?_ _ | refine blk_drew ?_ | refine blk_alloc ?_ _)); refine blk_far ?_ NB561_571.out _; (with_reducible repeat (first | refine blk_drewN ?_ _ | refine blk_drew ?_ | refine blk_alloc ?_ _)); refine blk_far ?_ NB561_571.out _; (with_reducible repeat (first | refine blk_drewN ?_ _ | refine blk_drew ?_ | refine blk_alloc ?_ _)); refine blk_far ?_ NB561_571.out _; (with_reducible repeat (first | refine blk_drewN ?_ _ | refine blk_drew ?_ | refine blk_alloc ?_ _)); exact BK561.out) hb) (blk_below (g := gb571) (o := .cells #[.int .i64 ((rd_T27 l0_4 x53_3).f0), .slice A570_1 ((rd_T27 l0_4 x53_3).f1).length c570_1, .slice A570_2 ((rd_T27 l0_4 x53_3).f2).length c570_2] 27 (0, 0)) (by (with_reducible repeat (first | refine blk_drewN ?_ _ | refine blk_drew ?_ | refine blk_alloc ?_ _)); refine blk_put (cs := #[.int .i64 ((rd_T27 l0_4 x53_3).f0), .slice A570_1 ((rd_T27 l0_4 x53_3).f1).length c570_1, .slice none 0 0]) ?_ 2 _ rfl; (with_reducible repeat (first | refine blk_drewN ?_ _ | refine blk_drew ?_ | refine blk_alloc ?_ _)); refine blk_put (cs := #[.int .i64 ((rd_T27 l0_4 x53_3).f0), .slice none 0 0, .slice none 0 0]) ?_ 1 _ rfl; (with_reducible repeat (first | refine blk_drewN ?_ _ | refine blk_drew ?_ | refine blk_alloc ?_ _)); refine blk_put (cs := #[.int .i64 0, .slice none 0 0, .slice none 0 0]) ?_ 0 _ rfl; (with_reducible repeat (first | refine blk_drewN ?_ _ | refine blk_drew ?_ | refine blk_alloc ?_ _)); exact BK571.out) hb) (below_step pB hb); clear BK561 BK571 HB; obtain ⟨BK561, BK571, HB⟩ := n_; (try clear hb)))
                     go_ret
                     exact ⟨pE, pB⟩
                   · rw [if_neg c37] at H
                     have c37b0 : (t572 != (x53_3 == 0)) = false := by simpa using c37
                     (try (have c37b1 : decide (t572 = (x53_3 == 0)) = true := by simpa using c37))
                     (try (have c37b2 : (t572 == (x53_3 == 0)) = true := by simpa using c37))
                     clear c37
                     have H' := Aside0.mk H
                     clear H
                     have p570 : 0 ≤ (x53_3 : Int) := pD
                     have q570 : x53_3 < (l0_4.length : Int) := pD
                     obtain ⟨ad570, A570_1, c570_1, A570_2, c570_2, e570, hx570_0, hx570_1, hx570_2, hl570_1, hi570_1, hl570_2, hi570_2⟩ := at_T27 HR0_4.out x53_3 p570 q570
                     cases e570; replace hx570_0 := cb HB hx570_0; replace hx570_1 := cb HB hx570_1; replace hx570_2 := cb HB hx570_2; have HR570_1 := Aside0.mk hi570_1; have HC570_1 := Aside0.mk hl570_1; clear hi570_1 hl570_1; have HR570_2 := Aside0.mk hi570_2; have HC570_2 := Aside0.mk hl570_2; clear hi570_2 hl570_2; replace p570 := eq_true p570; replace q570 := eq_true q570
                     go_wp2_with (first | ((with_reducible refine gate_dst (N := 7) rfl ?_); refine box_event ?hg (N := 7) ?hd (cs := #[.int .i64 0, .slice none 0 0, .slice none 0 0]) (t := 27) ?hr ?_; (case hd => rfl); (case hg => rfl); (case hr => first | (go_simp; done) | (go_simp; rfl)); intro gb571 hg w42 hbox hb; have n_ := t7 (blk_below (g := gb561) (o := .cells #[.int .i64 a0_0, .int .i64 a0_1, .int .i64 a0_2, .int .i64 a0_3, .slice (some ad570) l0_4.length c0_4] 72 (0, 0)) (pK BK561) hb) (below_step pB hb) (hbox) ((by rw [hg]; exact (below_size pB) : w.heap.size ≤ gb571)) ((by rw [hg]; exact (below_size pB) : w.heap.size ≤ gb571)) ((by rw [hg]; exact Nat.ne_of_lt (blk_lt (g := gb561) (o := .cells #[.int .i64 a0_0, .int .i64 a0_1, .int .i64 a0_2, .int .i64 a0_3, .slice (some ad570) l0_4.length c0_4] 72 (0, 0)) (pK BK561)) : gb561 ≠ gb571)) ((by rw [hg]; exact Nat.ne_of_gt (blk_lt (g := gb561) (o := .cells #[.int .i64 a0_0, .int .i64 a0_1, .int .i64 a0_2, .int .i64 a0_3, .slice (some ad570) l0_4.length c0_4] 72 (0, 0)) (pK BK561)) : gb571 ≠ gb561)); clear BK561 HB; obtain ⟨BK561, HB, BK571, GW571, GE571, NB561_571, NB571_561⟩ := n_; clear hb hbox hg; have hnb43 := NB571_561.out; have hnc43 := NB561_571.out; have hcz44_0 : w42.cell? ⟨gb571, 0, none⟩ = some (.int .i64 0) := (blk_cell BK571.out 0).trans rfl; have hcz44_1 : w42.cell? ⟨gb571, 1, none⟩ = some (.slice none 0 0) := (blk_cell BK571.out 1).trans rfl; have hcz44_2 : w42.cell? ⟨gb571, 2, none⟩ = some (.slice none 0 0) := (blk_cell BK571.out 2).trans rfl; have hfz44_0 := blk_frozen BK571.out 0; have hfz44_1 := blk_frozen BK571.out 1; have hfz44_2 := blk_frozen BK571.out 2) | ((with_reducible refine gate_callee (f := 93) rfl ?_); refine goesL_ (some 59) rfl rfl Try.func93 (by kernel_rfl) rfl #[.agg #[.int .i64 ((rd_T27 l0_4 x53_3).f0), .slice A570_1 ((rd_T27 l0_4 x53_3).f1).length c570_1, .slice A570_2 ((rd_T27 l0_4 x53_3).f2).length c570_2]] rfl pA ?_; (with_reducible refine (impl_isBase.calls ((rd_T27 l0_4 x53_3).f0) _ _ ((rd_T27 l0_4 x53_3).f1) _ _ ((rd_T27 l0_4 x53_3).f2) t572 _ ?side1 ?side2 ?side3 ?side4 A36.out).mono ?_); (case side1 => exact Kd.C_below HR570_1.out pB); (case side2 => exact HC570_1.out); (case side3 => exact Kd.C_below HR570_2.out pB); (case side4 => exact HC570_2.out); rintro e w45 ⟨rfl, hb⟩; refine ⟨_, rfl, ?_⟩; have n_ := t3 (blk_below (g := gb561) (o := .cells #[.int .i64 a0_0, .int .i64 a0_1, .int .i64 a0_2, .int .i64 a0_3, .slice (some ad570) l0_4.length c0_4] 72 (0, 0)) (by (with_reducible repeat (first | refine blk_drewN ?_ _ | refine blk_drew ?_ | refine blk_alloc ?_ _)); refine blk_far ?_ NB561_571.out _; (with_reducible repeat (first | refine blk_drewN ?_ _ | refine blk_drew ?_ | refine blk_alloc ?_ _)); refine blk_far ?_ NB561_571.out _; (with_reducible repeat (first | refine blk_drewN ?_ _ | refine blk_drew ?_ | refine blk_alloc ?_ _)); refine blk_far ?_ NB561_571.out _; (with_reducible repeat (first | refine blk_drewN ?_ _ | refine blk_drew ?_ | refine blk_alloc ?_ _)); exact BK561.out) hb) (blk_below (g := gb571) (o := .cells #[.int .i64 ((rd_T27 l0_4 x53_3).f0), .slice A570_1 ((rd_T27 l0_4 x53_3).f1).length c570_1, .slice A570_2 ((rd_T27 l0_4 x53_3).f2).length c570_2] 27 (0, 0)) (by (with_reducible repeat (first | refine blk_drewN ?_ _ | refine blk_drew ?_ | refine blk_alloc ?_ _)); refine blk_put (cs := #[.int .i64 ((rd_T27 l0_4 x53_3).f0), .slice A570_1 ((rd_T27 l0_4 x53_3).f1).length c570_1, .slice none 0 0]) ?_ 2 _ rfl; (with_reducible repeat (first | refine blk_drewN ?_ _ | refine blk_drew ?_ | refine blk_alloc ?_ _)); refine blk_put (cs := #[.int .i64 ((rd_T27 l0_4 x53_3).f0), .slice none 0 0, .slice none 0 0]) ?_ 1 _ rfl; (with_reducible repeat (first | refine blk_drewN ?_ _ | refine blk_drew ?_ | refine blk_alloc ?_ _)); refine blk_put (cs := #[.int .i64 0, .slice none 0 0, .slice none 0 0]) ?_ 0 _ rfl; (with_reducible repeat (first | refine blk_drewN ?_ _ | refine blk_drew ?_ | refine blk_alloc ?_ _)); exact BK571.out) hb) (below_step pB hb); clear BK561 BK571 HB; obtain ⟨BK561, BK571, HB⟩ := n_; (try clear hb)))
                     go_roundg k3
                     case measure => have := HJ1.out; have := HK2.out; have := HK3.out; omega
                     case rel => exact ⟨(wrap64 (x53_3 + 1)), pF, H', ⟨by have := HJ1.out; have := HK2.out; have := HK3.out; omega⟩, ⟨(pK BK561)⟩, ⟨pB⟩⟩
                 · rw [if_neg c35] at H
                   exact absurd H (by simp)
               · rw [if_neg c34] at H
                 exact absurd H (by simp)
             · rw [if_neg c33] at H
               have c33b0 : decide (x53_3 < (l0_4.length : Int)) = false := decide_eq_false c33
               clear c33
               obtain ⟨t573, A460, H⟩ := bO H
               replace H : ((impl_HasTwin.f k3 t573).bind fun t576 => (if t576 = true then (some 6) else (some 0))) = some r := H
               have A46 := Aside0.mk A460; clear A460
               obtain ⟨t576, A470, H⟩ := bO H
               replace H : (if t576 = true then (some 6) else (some 0)) = some r := H
               have A47 := Aside0.mk A470; clear A470
               by_cases c48 : t576 = true
               · subst c48
                 have H1 : (some 6) = some r := by rw [if_pos rfl] at H; exact H
                 clear H; have H := H1; clear H1
                 obtain rfl := Option.some.inj H
                 obtain ⟨hcz49_0, hcz49_1, hcz49_2, hcz49_3, hcz49_4, hfz49_0, hfz49_1, hfz49_2, hfz49_3, hfz49_4⟩ := bx5 BK561
                 go_wp2_with (first | ((with_reducible refine gate_callee (f := 95) rfl ?_); refine goesL_ (some 65) rfl rfl Try.func95 (by kernel_rfl) rfl #[.agg #[.int .i64 a0_0, .int .i64 a0_1, .int .i64 a0_2, .int .i64 a0_3, .slice A0_4 l0_4.length c0_4]] rfl pA ?_; (with_reducible refine (impl_txSums.calls k3 a0_0 a0_1 a0_2 a0_3 _ _ l0_4 t573 _ ?side1 ?side2 A46.out).mono ?_); (case side1 => exact pC (Kd.C_below HR0_4.out HB.out)); (case side2 => exact HC0_4.out); rintro e w50 ⟨v574, rfl, ho0, hb⟩; refine ⟨_, rfl, ?_⟩; have n_ := t3 (Kd.R_lower ho0 (below_size pB)) (blk_below (g := gb561) (o := .cells #[.int .i64 a0_0, .int .i64 a0_1, .int .i64 a0_2, .int .i64 a0_3, .slice A0_4 l0_4.length c0_4] 72 (0, 0)) (pK BK561) hb) (below_step pB hb); clear BK561 HB; obtain ⟨HO575, BK561, HB⟩ := n_; (try clear hb); (try clear ho0); obtain ⟨Ao51, co51, eo51⟩ := Kd.R_slice HO575.out; subst eo51) | ((with_reducible refine gate_callee (f := 94) rfl ?_); refine goesL_ (some 66) rfl rfl Try.func94 (by kernel_rfl) rfl #[.slice Ao51 t573.length co51] rfl pA ?_; (with_reducible refine (impl_HasTwin.calls k3 (fun k_ => some k_ = (.slice Ao51 t573.length co51 : Value).ownBlock) _ _ t573 true _ ?side1 A47.out).mono ?_); (case side1 => exact Kd.R_V (Kd.R_tight rfl (Kd.R_types (HO575.out) BK561.out (by decide)))); rintro e w52 ⟨rfl, hb⟩; refine ⟨_, rfl, ?_⟩; have n_ := t3 (Kd.R_below (pR HO575) hb) (blk_below (g := gb561) (o := .cells #[.int .i64 a0_0, .int .i64 a0_1, .int .i64 a0_2, .int .i64 a0_3, .slice A0_4 l0_4.length c0_4] 72 (0, 0)) (pK BK561) hb) (below_step pB hb); clear HO575 BK561 HB; obtain ⟨HO575, BK561, HB⟩ := n_; (try clear hb)))
                 go_ret
                 exact ⟨pE, pB⟩
               · replace c48 := Bool.eq_false_iff.mpr c48
                 subst c48
                 have H1 : (some 0) = some r := by rw [if_neg (show ¬ (false = true) by decide)] at H; exact H
                 clear H; have H := H1; clear H1
                 obtain rfl := Option.some.inj H
                 obtain ⟨hcz53_0, hcz53_1, hcz53_2, hcz53_3, hcz53_4, hfz53_0, hfz53_1, hfz53_2, hfz53_3, hfz53_4⟩ := bx5 BK561
                 go_wp2_with (first | ((with_reducible refine gate_callee (f := 95) rfl ?_); refine goesL_ (some 65) rfl rfl Try.func95 (by kernel_rfl) rfl #[.agg #[.int .i64 a0_0, .int .i64 a0_1, .int .i64 a0_2, .int .i64 a0_3, .slice A0_4 l0_4.length c0_4]] rfl pA ?_; (with_reducible refine (impl_txSums.calls k3 a0_0 a0_1 a0_2 a0_3 _ _ l0_4 t573 _ ?side1 ?side2 A46.out).mono ?_); (case side1 => exact pC (Kd.C_below HR0_4.out HB.out)); (case side2 => exact HC0_4.out); rintro e w54 ⟨v574, rfl, ho0, hb⟩; refine ⟨_, rfl, ?_⟩; have n_ := t3 (Kd.R_lower ho0 (below_size pB)) (blk_below (g := gb561) (o := .cells #[.int .i64 a0_0, .int .i64 a0_1, .int .i64 a0_2, .int .i64 a0_3, .slice A0_4 l0_4.length c0_4] 72 (0, 0)) (pK BK561) hb) (below_step pB hb); clear BK561 HB; obtain ⟨HO575, BK561, HB⟩ := n_; (try clear hb); (try clear ho0); obtain ⟨Ao55, co55, eo55⟩ := Kd.R_slice HO575.out; subst eo55) | ((with_reducible refine gate_callee (f := 94) rfl ?_); refine goesL_ (some 66) rfl rfl Try.func94 (by kernel_rfl) rfl #[.slice Ao55 t573.length co55] rfl pA ?_; (with_reducible refine (impl_HasTwin.calls k3 (fun k_ => some k_ = (.slice Ao55 t573.length co55 : Value).ownBlock) _ _ t573 false _ ?side1 A47.out).mono ?_); (case side1 => exact Kd.R_V (Kd.R_tight rfl (Kd.R_types (HO575.out) BK561.out (by decide)))); rintro e w56 ⟨rfl, hb⟩; refine ⟨_, rfl, ?_⟩; have n_ := t3 (Kd.R_below (pR HO575) hb) (blk_below (g := gb561) (o := .cells #[.int .i64 a0_0, .int .i64 a0_1, .int .i64 a0_2, .int .i64 a0_3, .slice A0_4 l0_4.length c0_4] 72 (0, 0)) (pK BK561) hb) (below_step pB hb); clear HO575 BK561 HB; obtain ⟨HO575, BK561, HB⟩ := n_; (try clear hb)))
                 go_ret
                 exact ⟨pE, pB⟩
     · replace c17 := Bool.eq_false_iff.mpr c17
       subst c17
       have H1 : (some 2) = some r := by rw [if_neg (show ¬ (false = true) by decide)] at H; exact H
       clear H; have H := H1; clear H1
       obtain rfl := Option.some.inj H
       obtain ⟨hcz57_0, hcz57_1, hcz57_2, hcz57_3, hcz57_4, hfz57_0, hfz57_1, hfz57_2, hfz57_3, hfz57_4⟩ := bx5 BK561
       go_wp2_with (first | ((with_reducible refine gate_callee (f := 57) rfl ?_); refine goesL_ (some 35) rfl rfl Try.func57 (by kernel_rfl) rfl #[.int .i64 (l0_4.length : Int), .int .i64 1, .int .i64 4] rfl pA ?_; (with_reducible refine (impl_in.calls (l0_4.length : Int) 1 4 false _ A16.out).mono ?_); rintro e w' ⟨rfl, ⟨nd, rfl⟩⟩; refine ⟨_, rfl, ?_⟩))
       go_ret
       exact ⟨pE, pB⟩
end Go.Proofs.Ythjlbpgiaehjnaa.QFnExactBlockFault
