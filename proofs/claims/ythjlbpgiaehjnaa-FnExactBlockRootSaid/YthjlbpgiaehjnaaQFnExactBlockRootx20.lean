-- written by this session's program (wip/tools/myprint.py)
import Derived.Test.YthjlbpgiaehjnaaQFnExactBlockRootx0
import Derived.Test.YthjlbpgiaehjnaaQFnExactBlockRootx12
import Derived.Test.YthjlbpgiaehjnaaQFnExactBlockRootx14
import Derived.Test.YthjlbpgiaehjnaaQFnExactBlockRootx16
import Derived.Test.YthjlbpgiaehjnaaQFnExactBlockRootx19
-- squeezed
namespace Go.Proofs.Ythjlbpgiaehjnaa.QFnExactBlockRoot
open Go.RowKit Go.Proofs.YthjlbpgiaehjnaaW.PrintWords Go.Proofs.YthjlbpgiaehjnaaW.PrintLast Go.Proofs.YthjlbpgiaehjnaaW.PrintMore
attribute [local go_sem] max2_int min2_int max_two min_two max_three min_three max_four min_four   -- for this text's walks alone
set_option linter.unusedVariables false
set_option linter.unusedSimpArgs false
set_option maxHeartbeats 8000000
set_option maxRecDepth 100000
mutual
def impl_BlockFault.j0 : Nat → Bool → Int → Int → Int → Int → List (S27) → Option (Int)
 | 0, _, _, _, _, _, _ => none
 | k + 1, x8, x597000, x597001, x597002, x597003, x597004 => if x8 = true then (some 3) else ((impl_in.f (x597004.length : Int) 1 4).bind fun t601 => (if t601 = true then (impl_BlockFault.l0 k x597004 (x597004.length : Int) 0 x597000 x597001 x597002 x597003 x597004) else (some 2)))
def impl_BlockFault.l0 : Nat → List (S27) → Int → Int → Int → Int → Int → Int → List (S27) → Option (Int)
 | 0, _, _, _, _, _, _, _, _ => none
 | k + 1, x38, x39, x40, x597000, x597001, x597002, x597003, x597004 => if x40 < x39 then (if 0 ≤ x40 then (if x40 < (x38.length : Int) then ((impl_TxFault.f k ((rd_T27 x38 x40).f0) ((rd_T27 x38 x40).f1) ((rd_T27 x38 x40).f2)).bind fun t604 => (if t604 = 0 then (impl_BlockFault.l0 k x38 x39 (wrap64 (x40 + 1)) x597000 x597001 x597002 x597003 x597004) else (some t604))) else (none)) else (none)) else (impl_BlockFault.l1 k x597004 (x597004.length : Int) 0 x597000 x597001 x597002 x597003 x597004)
def impl_BlockFault.l1 : Nat → List (S27) → Int → Int → Int → Int → Int → Int → List (S27) → Option (Int)
 | 0, _, _, _, _, _, _, _, _ => none
 | k + 1, x51, x52, x53, x597000, x597001, x597002, x597003, x597004 => if x53 < x52 then (if 0 ≤ x53 then (if x53 < (x51.length : Int) then ((impl_isBase.f ((rd_T27 x51 x53).f0) ((rd_T27 x51 x53).f1) ((rd_T27 x51 x53).f2)).bind fun t607 => (if (t607 != (x53 == 0)) = true then (some 1) else (impl_BlockFault.l1 k x51 x52 (wrap64 (x53 + 1)) x597000 x597001 x597002 x597003 x597004))) else (none)) else (none)) else ((impl_txSums.f k x597000 x597001 x597002 x597003 x597004).bind fun t608 => ((impl_HasTwin.f k t608).bind fun t611 => (if t611 = true then (some 6) else (some 0))))
end
def impl_BlockFault.f (k : Nat) (a0_0 : Int) (a0_1 : Int) (a0_2 : Int) (a0_3 : Int) (l0_4 : List (S27)) : Option (Int) := (impl_isSum.f a0_0).bind fun t597 => (if t597 = true then ((impl_in.f a0_1 1 99999).bind fun t598 => (if t598 = true then ((impl_bitsOk.f a0_2).bind fun t599 => (if t599 = true then ((impl_in.f a0_3 0 65535).bind fun t600 => (impl_BlockFault.j0 k (!t600) a0_0 a0_1 a0_2 a0_3 l0_4)) else (impl_BlockFault.j0 k true a0_0 a0_1 a0_2 a0_3 l0_4))) else (impl_BlockFault.j0 k true a0_0 a0_1 a0_2 a0_3 l0_4))) else (impl_BlockFault.j0 k true a0_0 a0_1 a0_2 a0_3 l0_4))
theorem impl_BlockFault.mono_l : ∀ k, (∀ y0 y1 y2 y3 y4 y5, LeO (impl_BlockFault.j0 k y0 y1 y2 y3 y4 y5) (impl_BlockFault.j0 (k + 1) y0 y1 y2 y3 y4 y5)) ∧ (∀ y0 y1 y2 y3 y4 y5 y6 y7, LeO (impl_BlockFault.l0 k y0 y1 y2 y3 y4 y5 y6 y7) (impl_BlockFault.l0 (k + 1) y0 y1 y2 y3 y4 y5 y6 y7)) ∧ (∀ y0 y1 y2 y3 y4 y5 y6 y7, LeO (impl_BlockFault.l1 k y0 y1 y2 y3 y4 y5 y6 y7) (impl_BlockFault.l1 (k + 1) y0 y1 y2 y3 y4 y5 y6 y7))
 | 0 => ⟨fun _ _ _ _ _ _ r h => by simp [impl_BlockFault.j0] at h, fun _ _ _ _ _ _ _ _ r h => by simp [impl_BlockFault.l0] at h, fun _ _ _ _ _ _ _ _ r h => by simp [impl_BlockFault.l1] at h⟩
 | k + 1 => by
  obtain ⟨ih0, ih1, ih2⟩ := impl_BlockFault.mono_l k
  refine ⟨?_, ?_, ?_⟩
  · intro y0 y1 y2 y3 y4 y5
    unfold impl_BlockFault.j0
    repeat' with_reducible first | exact ih0 _ _ _ _ _ _ | exact ih1 _ _ _ _ _ _ _ _ | exact ih2 _ _ _ _ _ _ _ _ | exact impl_HasTwin.mono _ _ | exact impl_TxFault.mono _ _ _ _ | exact impl_txSums.mono _ _ _ _ _ _ | exact LeO.refl _ | exact LeO.none _ | refine LeO.ite ?_ ?_ | refine LeO.bind ?_ (fun _ => ?_)
  · intro y0 y1 y2 y3 y4 y5 y6 y7
    unfold impl_BlockFault.l0
    repeat' with_reducible first | exact ih0 _ _ _ _ _ _ | exact ih1 _ _ _ _ _ _ _ _ | exact ih2 _ _ _ _ _ _ _ _ | exact impl_HasTwin.mono _ _ | exact impl_TxFault.mono _ _ _ _ | exact impl_txSums.mono _ _ _ _ _ _ | exact LeO.refl _ | exact LeO.none _ | refine LeO.ite ?_ ?_ | refine LeO.bind ?_ (fun _ => ?_)
  · intro y0 y1 y2 y3 y4 y5 y6 y7
    unfold impl_BlockFault.l1
    repeat' with_reducible first | exact ih0 _ _ _ _ _ _ | exact ih1 _ _ _ _ _ _ _ _ | exact ih2 _ _ _ _ _ _ _ _ | exact impl_HasTwin.mono _ _ | exact impl_TxFault.mono _ _ _ _ | exact impl_txSums.mono _ _ _ _ _ _ | exact LeO.refl _ | exact LeO.none _ | refine LeO.ite ?_ ?_ | refine LeO.bind ?_ (fun _ => ?_)
theorem impl_BlockFault.mono : ∀ a0 a1 a2 a3 a4 k, LeO (impl_BlockFault.f k a0 a1 a2 a3 a4) (impl_BlockFault.f (k + 1) a0 a1 a2 a3 a4) := by
 intro a0 a1 a2 a3 a4 k
 obtain ⟨ih0, ih1, ih2⟩ := impl_BlockFault.mono_l k
 unfold impl_BlockFault.f
 repeat' with_reducible first | exact ih0 _ _ _ _ _ _ | exact ih1 _ _ _ _ _ _ _ _ | exact ih2 _ _ _ _ _ _ _ _ | exact impl_HasTwin.mono _ _ | exact impl_TxFault.mono _ _ _ _ | exact impl_txSums.mono _ _ _ _ _ _ | exact LeO.refl _ | exact LeO.none _ | refine LeO.ite ?_ ?_ | refine LeO.bind ?_ (fun _ => ?_)
theorem impl_BlockFault.calls (k : Nat) (a0_0 : Int) (a0_1 : Int) (a0_2 : Int) (a0_3 : Int) (A0_4 : Option Addr) (c0_4 : Nat) (l0_4 : List (S27)) (r : Int) (w : World) (hr0_4 : Kd.C k27 w A0_4 l0_4.length l0_4) (hc0_4 : l0_4.length ≤ c0_4) (h : impl_BlockFault.f k a0_0 a0_1 a0_2 a0_3 l0_4 = some r) :
 Calls Try.prog 46 #[.agg #[.int .i64 a0_0, .int .i64 a0_1, .int .i64 a0_2, .int .i64 a0_3, .slice A0_4 l0_4.length c0_4]] w fun e w' => e = .returned (.int .i64 r) ∧ Below w.heap.size w w' := by
 have hu72 := Try.underlying72
 have hu27 := Try.underlying27
 have HR0_4 := am hr0_4; have HC0_4 := am hc0_4; clear hr0_4 hc0_4
 have HB := am (Below.refl w.heap.size w)
 have H : ((impl_isSum.f a0_0).bind fun t597 => (if t597 = true then ((impl_in.f a0_1 1 99999).bind fun t598 => (if t598 = true then ((impl_bitsOk.f a0_2).bind fun t599 => (if t599 = true then ((impl_in.f a0_3 0 65535).bind fun t600 => (impl_BlockFault.j0 k (!t600) a0_0 a0_1 a0_2 a0_3 l0_4)) else (impl_BlockFault.j0 k true a0_0 a0_1 a0_2 a0_3 l0_4))) else (impl_BlockFault.j0 k true a0_0 a0_1 a0_2 a0_3 l0_4))) else (impl_BlockFault.j0 k true a0_0 a0_1 a0_2 a0_3 l0_4))) = some r := h
 clear h; have HC2 := am H; clear H
 go_enter Try.func46, Try.ntmps46
 go_upto_region 1 with (first | ((with_reducible refine gate_dst (N := 1) rfl ?_); refine box_event ?hg (N := 1) ?hd (cs := #[.int .i64 a0_0, .int .i64 a0_1, .int .i64 a0_2, .int .i64 a0_3, .slice A0_4 l0_4.length c0_4]) (t := 72) ?hr ?_; (case hd => rfl); (case hg => rfl); (case hr => first | (go_simp; done) | (go_simp; rfl)); intro gb596 hg w3 hbox hb; have n_ := t4 (bz_ pB hb) (hbox) ((by rw [hg]; exact (bs_ pB) : w.heap.size ≤ gb596)) ((by rw [hg]; exact (bs_ pB) : w.heap.size ≤ gb596)); clear HB; obtain ⟨HB, BK596, GW596, GE596⟩ := n_; clear hb hbox hg))
 (try simp only [Act.put, List.setIfInBounds_toArray, List.set_cons_zero, List.set_cons_succ])
 go_cut [8] (fun v8 wc => ∃ (kq : Nat) (x8_1 : Bool), v8 = .bool x8_1 ∧ Aside0 (impl_BlockFault.j0 kq x8_1 a0_0 a0_1 a0_2 a0_3 l0_4 = some r) ∧ Aside0 (kq ≤ k) ∧ Aside0 (wc.heap[gb596]? = some (.cells #[.int .i64 a0_0, .int .i64 a0_1, .int .i64 a0_2, .int .i64 a0_3, (.slice A0_4 l0_4.length c0_4)] 72 (0, 0))) ∧ Aside0 (Below w.heap.size w wc))
 case first =>
  have H := HC2.out
  clear HC2
  obtain ⟨t597, A40, H⟩ := bO H
  replace H : (if t597 = true then ((impl_in.f a0_1 1 99999).bind fun t598 => (if t598 = true then ((impl_bitsOk.f a0_2).bind fun t599 => (if t599 = true then ((impl_in.f a0_3 0 65535).bind fun t600 => (impl_BlockFault.j0 k (!t600) a0_0 a0_1 a0_2 a0_3 l0_4)) else (impl_BlockFault.j0 k true a0_0 a0_1 a0_2 a0_3 l0_4))) else (impl_BlockFault.j0 k true a0_0 a0_1 a0_2 a0_3 l0_4))) else (impl_BlockFault.j0 k true a0_0 a0_1 a0_2 a0_3 l0_4)) = some r := H
  have A4 := am A40; clear A40
  by_cases c5 : t597 = true
  · subst c5
    have H1 : ((impl_in.f a0_1 1 99999).bind fun t598 => (if t598 = true then ((impl_bitsOk.f a0_2).bind fun t599 => (if t599 = true then ((impl_in.f a0_3 0 65535).bind fun t600 => (impl_BlockFault.j0 k (!t600) a0_0 a0_1 a0_2 a0_3 l0_4)) else (impl_BlockFault.j0 k true a0_0 a0_1 a0_2 a0_3 l0_4))) else (impl_BlockFault.j0 k true a0_0 a0_1 a0_2 a0_3 l0_4))) = some r := by rw [if_pos rfl] at H; exact H
    clear H; have H := H1; clear H1
    obtain ⟨t598, A60, H⟩ := bO H
    replace H : (if t598 = true then ((impl_bitsOk.f a0_2).bind fun t599 => (if t599 = true then ((impl_in.f a0_3 0 65535).bind fun t600 => (impl_BlockFault.j0 k (!t600) a0_0 a0_1 a0_2 a0_3 l0_4)) else (impl_BlockFault.j0 k true a0_0 a0_1 a0_2 a0_3 l0_4))) else (impl_BlockFault.j0 k true a0_0 a0_1 a0_2 a0_3 l0_4)) = some r := H
    have A6 := am A60; clear A60
    by_cases c7 : t598 = true
    · subst c7
      have H1 : ((impl_bitsOk.f a0_2).bind fun t599 => (if t599 = true then ((impl_in.f a0_3 0 65535).bind fun t600 => (impl_BlockFault.j0 k (!t600) a0_0 a0_1 a0_2 a0_3 l0_4)) else (impl_BlockFault.j0 k true a0_0 a0_1 a0_2 a0_3 l0_4))) = some r := by rw [if_pos rfl] at H; exact H
      clear H; have H := H1; clear H1
      obtain ⟨t599, A80, H⟩ := bO H
      replace H : (if t599 = true then ((impl_in.f a0_3 0 65535).bind fun t600 => (impl_BlockFault.j0 k (!t600) a0_0 a0_1 a0_2 a0_3 l0_4)) else (impl_BlockFault.j0 k true a0_0 a0_1 a0_2 a0_3 l0_4)) = some r := H
      have A8 := am A80; clear A80
      by_cases c9 : t599 = true
      · subst c9
        have H1 : ((impl_in.f a0_3 0 65535).bind fun t600 => (impl_BlockFault.j0 k (!t600) a0_0 a0_1 a0_2 a0_3 l0_4)) = some r := by rw [if_pos rfl] at H; exact H
        clear H; have H := H1; clear H1
        obtain ⟨t600, A100, H⟩ := bO H
        replace H : (impl_BlockFault.j0 k (!t600) a0_0 a0_1 a0_2 a0_3 l0_4) = some r := H
        have A10 := am A100; clear A100
        have H' := am H
        clear H
        obtain ⟨hcz11_0, hcz11_1, hcz11_2, hcz11_3, hcz11_4, hfz11_0, hfz11_1, hfz11_2, hfz11_3, hfz11_4⟩ := bx5 BK596
        go_wp2_with (first | ((with_reducible refine gC (f := 91) rfl ?_); refine goesL_ (some 11) rfl rfl Try.func91 (by kernel_rfl) rfl #[.int .i64 a0_0] rfl pA ?_; (with_reducible refine (impl_isSum.calls a0_0 true _ A4.out).mono ?_); rintro e w' ⟨rfl, ⟨nd, rfl⟩⟩; refine ⟨_, rfl, ?_⟩) | (go_at_call 57; (with_reducible refine (impl_in.calls a0_1 1 99999 true _ A6.out).mono ?_); rintro e w' ⟨rfl, ⟨nd, rfl⟩⟩) | (go_at_call 92; (with_reducible refine (impl_bitsOk.calls a0_2 true _ A8.out).mono ?_); rintro e w' ⟨rfl, ⟨nd, rfl⟩⟩) | (go_at_call 57; (with_reducible refine (impl_in.calls a0_3 0 65535 t600 _ A10.out).mono ?_); rintro e w' ⟨rfl, ⟨nd, rfl⟩⟩))
        go_meet
        case rel => exact ⟨_, (!t600), pF, H', ⟨by first | omega | exact Nat.le_refl _⟩, ⟨(pK BK596)⟩, ⟨pB⟩⟩
      · replace c9 := Bool.eq_false_iff.mpr c9
        subst c9
        have H1 : (impl_BlockFault.j0 k true a0_0 a0_1 a0_2 a0_3 l0_4) = some r := by rw [if_neg (show ¬ (false = true) by decide)] at H; exact H
        clear H; have H := H1; clear H1
        have H' := am H
        clear H
        obtain ⟨hcz12_0, hcz12_1, hcz12_2, hcz12_3, hcz12_4, hfz12_0, hfz12_1, hfz12_2, hfz12_3, hfz12_4⟩ := bx5 BK596
        go_wp2_with (first | ((with_reducible refine gC (f := 91) rfl ?_); refine goesL_ (some 11) rfl rfl Try.func91 (by kernel_rfl) rfl #[.int .i64 a0_0] rfl pA ?_; (with_reducible refine (impl_isSum.calls a0_0 true _ A4.out).mono ?_); rintro e w' ⟨rfl, ⟨nd, rfl⟩⟩; refine ⟨_, rfl, ?_⟩) | (go_at_call 57; (with_reducible refine (impl_in.calls a0_1 1 99999 true _ A6.out).mono ?_); rintro e w' ⟨rfl, ⟨nd, rfl⟩⟩) | (go_at_call 92; (with_reducible refine (impl_bitsOk.calls a0_2 false _ A8.out).mono ?_); rintro e w' ⟨rfl, ⟨nd, rfl⟩⟩))
        go_meet
        case rel => exact ⟨_, (true), pF, H', ⟨by first | omega | exact Nat.le_refl _⟩, ⟨(pK BK596)⟩, ⟨pB⟩⟩
    · replace c7 := Bool.eq_false_iff.mpr c7
      subst c7
      have H1 : (impl_BlockFault.j0 k true a0_0 a0_1 a0_2 a0_3 l0_4) = some r := by rw [if_neg (show ¬ (false = true) by decide)] at H; exact H
      clear H; have H := H1; clear H1
      have H' := am H
      clear H
      obtain ⟨hcz13_0, hcz13_1, hcz13_2, hcz13_3, hcz13_4, hfz13_0, hfz13_1, hfz13_2, hfz13_3, hfz13_4⟩ := bx5 BK596
      go_wp2_with (first | ((with_reducible refine gC (f := 91) rfl ?_); refine goesL_ (some 11) rfl rfl Try.func91 (by kernel_rfl) rfl #[.int .i64 a0_0] rfl pA ?_; (with_reducible refine (impl_isSum.calls a0_0 true _ A4.out).mono ?_); rintro e w' ⟨rfl, ⟨nd, rfl⟩⟩; refine ⟨_, rfl, ?_⟩) | (go_at_call 57; (with_reducible refine (impl_in.calls a0_1 1 99999 false _ A6.out).mono ?_); rintro e w' ⟨rfl, ⟨nd, rfl⟩⟩))
      go_meet
      case rel => exact ⟨_, (true), pF, H', ⟨by first | omega | exact Nat.le_refl _⟩, ⟨(pK BK596)⟩, ⟨pB⟩⟩
  · replace c5 := Bool.eq_false_iff.mpr c5
    subst c5
    have H1 : (impl_BlockFault.j0 k true a0_0 a0_1 a0_2 a0_3 l0_4) = some r := by rw [if_neg (show ¬ (false = true) by decide)] at H; exact H
    clear H; have H := H1; clear H1
    have H' := am H
    clear H
    obtain ⟨hcz14_0, hcz14_1, hcz14_2, hcz14_3, hcz14_4, hfz14_0, hfz14_1, hfz14_2, hfz14_3, hfz14_4⟩ := bx5 BK596
    go_wp2_with (first | ((with_reducible refine gC (f := 91) rfl ?_); refine goesL_ (some 11) rfl rfl Try.func91 (by kernel_rfl) rfl #[.int .i64 a0_0] rfl pA ?_; (with_reducible refine (impl_isSum.calls a0_0 false _ A4.out).mono ?_); rintro e w' ⟨rfl, ⟨nd, rfl⟩⟩; refine ⟨_, rfl, ?_⟩))
    go_meet
    case rel => exact ⟨_, (true), pF, H', ⟨by first | omega | exact Nat.le_refl _⟩, ⟨(pK BK596)⟩, ⟨pB⟩⟩
 case rest =>
  clear HC2
  obtain ⟨kq, x8_1, rfl, HA, HJ1, BK596, HB⟩ := hcut
  cases kq with
  | zero => exact absurd HA.out (by simp [impl_BlockFault.j0])
  | succ kj1 =>
   have H := HA.out
   clear HA
   simp only [impl_BlockFault.j0] at H
   by_cases c15 : x8_1 = true
   · subst c15
     have H1 : (some 3) = some r := by rw [if_pos rfl] at H; exact H
     clear H; have H := H1; clear H1
     obtain rfl := sj H
     go_wp2
     go_ret
     exact ⟨pE, pB⟩
   · replace c15 := Bool.eq_false_iff.mpr c15
     subst c15
     have H1 : ((impl_in.f (l0_4.length : Int) 1 4).bind fun t601 => (if t601 = true then (impl_BlockFault.l0 kj1 l0_4 (l0_4.length : Int) 0 a0_0 a0_1 a0_2 a0_3 l0_4) else (some 2))) = some r := by rw [if_neg (show ¬ (false = true) by decide)] at H; exact H
     clear H; have H := H1; clear H1
     obtain ⟨t601, A160, H⟩ := bO H
     replace H : (if t601 = true then (impl_BlockFault.l0 kj1 l0_4 (l0_4.length : Int) 0 a0_0 a0_1 a0_2 a0_3 l0_4) else (some 2)) = some r := H
     have A16 := am A160; clear A160
     by_cases c17 : t601 = true
     · subst c17
       have H1 : (impl_BlockFault.l0 kj1 l0_4 (l0_4.length : Int) 0 a0_0 a0_1 a0_2 a0_3 l0_4) = some r := by rw [if_pos rfl] at H; exact H
       clear H; have H := H1; clear H1
       have H' := am H
       clear H
       obtain ⟨hcz18_0, hcz18_1, hcz18_2, hcz18_3, hcz18_4, hfz18_0, hfz18_1, hfz18_2, hfz18_3, hfz18_4⟩ := bx5 BK596
       go_wp2_with (first | ((with_reducible refine gC (f := 57) rfl ?_); refine goesL_ (some 35) rfl rfl Try.func57 (by kernel_rfl) rfl #[.int .i64 (l0_4.length : Int), .int .i64 1, .int .i64 4] rfl pA ?_; (with_reducible refine (impl_in.calls (l0_4.length : Int) 1 4 true _ A16.out).mono ?_); rintro e w' ⟨rfl, ⟨nd, rfl⟩⟩; refine ⟨_, rfl, ?_⟩))
       go_loopg [40] kj1 (fun kq v40 w' => ∃ (x40_2 : Int), v40 = .int .i64 x40_2 ∧ Aside0 (impl_BlockFault.l0 kq l0_4 (l0_4.length : Int) x40_2 a0_0 a0_1 a0_2 a0_3 l0_4 = some r) ∧ Aside0 (kq ≤ kj1) ∧ Aside0 (w'.heap[gb596]? = some (.cells #[.int .i64 a0_0, .int .i64 a0_1, .int .i64 a0_2, .int .i64 a0_3, (.slice A0_4 l0_4.length c0_4)] 72 (0, 0))) ∧ Aside0 (Below w.heap.size w w'))
       case atStart => exact ⟨(0), pF, H', ⟨Nat.le_refl _⟩, ⟨(pK BK596)⟩, ⟨pB⟩⟩
       case round =>
        clear H'
        (try clear c15); (try clear c17); (try clear hcz18_0); (try clear hcz18_1); (try clear hcz18_2); (try clear hcz18_3); (try clear hcz18_4); (try clear hfz18_0); (try clear hfz18_1); (try clear hfz18_2); (try clear hfz18_3); (try clear hfz18_4)
        obtain ⟨x40_2, rfl, HA, HK2, BK596, HB⟩ := hrel
        cases gk with
        | zero => exact absurd HA.out (by simp [impl_BlockFault.l0])
        | succ k2 =>
         have H := HA.out
         clear HA
         simp only [impl_BlockFault.l0] at H
         by_cases c19 : x40_2 < (l0_4.length : Int)
         · rw [if_pos c19] at H
           have c19b0 : decide (x40_2 < (l0_4.length : Int)) = true := dt c19
           clear c19
           by_cases c20 : 0 ≤ x40_2
           · rw [if_pos c20] at H
             have c20b0 : decide (0 ≤ x40_2) = true := dt c20
             clear c20
             by_cases c21 : x40_2 < (l0_4.length : Int)
             · rw [if_pos c21] at H
               have c21b0 : decide (x40_2 < (l0_4.length : Int)) = true := dt c21
               clear c21
               obtain ⟨t604, A220, H⟩ := bO H
               replace H : (if t604 = 0 then (impl_BlockFault.l0 k2 l0_4 (l0_4.length : Int) (wrap64 (x40_2 + 1)) a0_0 a0_1 a0_2 a0_3 l0_4) else (some t604)) = some r := H
               have A22 := am A220; clear A220
               by_cases c23 : t604 = 0
               · rw [if_pos c23] at H
                 have c23b0 : (t604 == 0) = true := beq_iff_eq.mpr c23
                 have c23b1 : (t604 != 0) = false := bne_eq_false_iff_eq.mpr c23
                 clear c23
                 have H' := am H
                 clear H
                 have p602 : 0 ≤ (x40_2 : Int) := pD
                 have q602 : x40_2 < (l0_4.length : Int) := pD
                 obtain ⟨ad602, A602_1, c602_1, A602_2, c602_2, e602, hx602_0, hx602_1, hx602_2, hl602_1, hi602_1, hl602_2, hi602_2⟩ := at_T27 HR0_4.out x40_2 p602 q602
                 cases e602; replace hx602_0 := cb HB hx602_0; replace hx602_1 := cb HB hx602_1; replace hx602_2 := cb HB hx602_2; have HR602_1 := am hi602_1; have HC602_1 := am hl602_1; clear hi602_1 hl602_1; have HR602_2 := am hi602_2; have HC602_2 := am hl602_2; clear hi602_2 hl602_2; replace p602 := eq_true p602; replace q602 := eq_true q602
                 go_wp2_with (first | ((with_reducible refine gate_dst (N := 4) rfl ?_); refine box_event ?hg (N := 4) ?hd (cs := #[.int .i64 0, .slice none 0 0, .slice none 0 0]) (t := 27) ?hr ?_; (case hd => rfl); (case hg => rfl); (case hr => first | (go_simp; done) | (go_simp; rfl)); intro gb603 hg w24 hbox hb; have n_ := t7 (blk_below (g := gb596) (o := .cells #[.int .i64 a0_0, .int .i64 a0_1, .int .i64 a0_2, .int .i64 a0_3, .slice (some ad602) l0_4.length c0_4] 72 (0, 0)) (pK BK596) hb) (bz_ pB hb) (hbox) ((by rw [hg]; exact (bs_ pB) : w.heap.size ≤ gb603)) ((by rw [hg]; exact (bs_ pB) : w.heap.size ≤ gb603)) ((by rw [hg]; exact Nat.ne_of_lt (blk_lt (g := gb596) (o := .cells #[.int .i64 a0_0, .int .i64 a0_1, .int .i64 a0_2, .int .i64 a0_3, .slice (some ad602) l0_4.length c0_4] 72 (0, 0)) (pK BK596)) : gb596 ≠ gb603)) ((by rw [hg]; exact Nat.ne_of_gt (blk_lt (g := gb596) (o := .cells #[.int .i64 a0_0, .int .i64 a0_1, .int .i64 a0_2, .int .i64 a0_3, .slice (some ad602) l0_4.length c0_4] 72 (0, 0)) (pK BK596)) : gb603 ≠ gb596)); clear BK596 HB; obtain ⟨BK596, HB, BK603, GW603, GE603, NB596_603, NB603_596⟩ := n_; clear hb hbox hg; have hnb25 := NB603_596.out; have hnc25 := NB596_603.out; have hcz26_0 : w24.cell? ⟨gb603, 0, none⟩ = some (.int .i64 0) := (blk_cell BK603.out 0).trans rfl; have hcz26_1 : w24.cell? ⟨gb603, 1, none⟩ = some (.slice none 0 0) := (blk_cell BK603.out 1).trans rfl; have hcz26_2 : w24.cell? ⟨gb603, 2, none⟩ = some (.slice none 0 0) := (blk_cell BK603.out 2).trans rfl; have hfz26_0 := blk_frozen BK603.out 0; have hfz26_1 := blk_frozen BK603.out 1; have hfz26_2 := blk_frozen BK603.out 2) | ((with_reducible refine gC (f := 16) rfl ?_); refine goesL_ (some 45) rfl rfl Try.func16 (by kernel_rfl) rfl #[.agg #[.int .i64 ((rd_T27 l0_4 x40_2).f0), .slice A602_1 ((rd_T27 l0_4 x40_2).f1).length c602_1, .slice A602_2 ((rd_T27 l0_4 x40_2).f2).length c602_2]] rfl pA ?_; (with_reducible refine (impl_TxFault.calls k2 ((rd_T27 l0_4 x40_2).f0) _ _ ((rd_T27 l0_4 x40_2).f1) _ _ ((rd_T27 l0_4 x40_2).f2) t604 _ ?side1 ?side2 ?side3 ?side4 A22.out).mono ?_); (case side1 => exact Kd.C_below HR602_1.out pB); (case side2 => exact HC602_1.out); (case side3 => exact Kd.C_below HR602_2.out pB); (case side4 => exact HC602_2.out); rintro e w27 ⟨rfl, hb⟩; refine ⟨_, rfl, ?_⟩; have n_ := t3 (blk_below (g := gb596) (o := .cells #[.int .i64 a0_0, .int .i64 a0_1, .int .i64 a0_2, .int .i64 a0_3, .slice (some ad602) l0_4.length c0_4] 72 (0, 0)) (by (with_reducible repeat (first | refine blk_drewN ?_ _ | refine blk_drew ?_ | refine blk_alloc ?_ _)); refine blk_far ?_ NB596_603.out _; (with_reducible repeat (first | refine blk_drewN ?_ _ | refine blk_drew ?_ | refine blk_alloc ?_ _)); refine blk_far ?_ NB596_603.out _; (with_reducible repeat (first | refine blk_drewN ?_ _ | refine blk_drew ?_ | refine blk_alloc ?_ _)); refine blk_far ?_ NB596_603.out _; (with_reducible repeat (first | refine blk_drewN ?_ _ | refine blk_drew ?_ | refine blk_alloc ?_ _)); exact BK596.out) hb) (blk_below (g := gb603) (o := .cells #[.int .i64 ((rd_T27 l0_4 x40_2).f0), .slice A602_1 ((rd_T27 l0_4 x40_2).f1).length c602_1, .slice A602_2 ((rd_T27 l0_4 x40_2).f2).length c602_2] 27 (0, 0)) (by (with_reducible repeat (first | refine blk_drewN ?_ _ | refine blk_drew ?_ | refine blk_alloc ?_ _)); refine blk_put (cs := #[.int .i64 ((rd_T27 l0_4 x40_2).f0), .slice A602_1 ((rd_T27 l0_4 x40_2).f1).length c602_1, .slice none 0 0]) ?_ 2 _ rfl; (with_reducible repeat (first | refine blk_drewN ?_ _ | refine blk_drew ?_ | refine blk_alloc ?_ _)); refine blk_put (cs := #[.int .i64 ((rd_T27 l0_4 x40_2).f0), .slice none 0 0, .slice none 0 0]) ?_ 1 _ rfl; (with_reducible repeat (first | refine blk_drewN ?_ _ | refine blk_drew ?_ | refine blk_alloc ?_ _)); refine blk_put (cs := #[.int .i64 0, .slice none 0 0, .slice none 0 0]) ?_ 0 _ rfl; (with_reducible repeat (first | refine blk_drewN ?_ _ | refine blk_drew ?_ | refine blk_alloc ?_ _)); exact BK603.out) hb) (bz_ pB hb); clear BK596 BK603 HB; obtain ⟨BK596, BK603, HB⟩ := n_; (try clear hb)))
                 go_roundg k2
                 case measure => have := HJ1.out; have := HK2.out; omega
                 case rel => exact ⟨(wrap64 (x40_2 + 1)), pF, H', ⟨by have := HJ1.out; have := HK2.out; omega⟩, ⟨(pK BK596)⟩, ⟨pB⟩⟩
               · rw [if_neg c23] at H
                 have c23b0 : (t604 == 0) = false := beq_eq_false_iff_ne.mpr c23
                 have c23b1 : (t604 != 0) = true := bne_iff_ne.mpr c23
                 obtain rfl := sj H
                 have p602 : 0 ≤ (x40_2 : Int) := pD
                 have q602 : x40_2 < (l0_4.length : Int) := pD
                 obtain ⟨ad602, A602_1, c602_1, A602_2, c602_2, e602, hx602_0, hx602_1, hx602_2, hl602_1, hi602_1, hl602_2, hi602_2⟩ := at_T27 HR0_4.out x40_2 p602 q602
                 cases e602; replace hx602_0 := cb HB hx602_0; replace hx602_1 := cb HB hx602_1; replace hx602_2 := cb HB hx602_2; have HR602_1 := am hi602_1; have HC602_1 := am hl602_1; clear hi602_1 hl602_1; have HR602_2 := am hi602_2; have HC602_2 := am hl602_2; clear hi602_2 hl602_2; replace p602 := eq_true p602; replace q602 := eq_true q602
                 go_wp2_with (first | ((with_reducible refine gate_dst (N := 4) rfl ?_); refine box_event ?hg (N := 4) ?hd (cs := #[.int .i64 0, .slice none 0 0, .slice none 0 0]) (t := 27) ?hr ?_; (case hd => rfl); (case hg => rfl); (case hr => first | (go_simp; done) | (go_simp; rfl)); intro gb603 hg w28 hbox hb; have n_ := t7 (blk_below (g := gb596) (o := .cells #[.int .i64 a0_0, .int .i64 a0_1, .int .i64 a0_2, .int .i64 a0_3, .slice (some ad602) l0_4.length c0_4] 72 (0, 0)) (pK BK596) hb) (bz_ pB hb) (hbox) ((by rw [hg]; exact (bs_ pB) : w.heap.size ≤ gb603)) ((by rw [hg]; exact (bs_ pB) : w.heap.size ≤ gb603)) ((by rw [hg]; exact Nat.ne_of_lt (blk_lt (g := gb596) (o := .cells #[.int .i64 a0_0, .int .i64 a0_1, .int .i64 a0_2, .int .i64 a0_3, .slice (some ad602) l0_4.length c0_4] 72 (0, 0)) (pK BK596)) : gb596 ≠ gb603)) ((by rw [hg]; exact Nat.ne_of_gt (blk_lt (g := gb596) (o := .cells #[.int .i64 a0_0, .int .i64 a0_1, .int .i64 a0_2, .int .i64 a0_3, .slice (some ad602) l0_4.length c0_4] 72 (0, 0)) (pK BK596)) : gb603 ≠ gb596)); clear BK596 HB; obtain ⟨BK596, HB, BK603, GW603, GE603, NB596_603, NB603_596⟩ := n_; clear hb hbox hg; have hnb29 := NB603_596.out; have hnc29 := NB596_603.out; have hcz30_0 : w28.cell? ⟨gb603, 0, none⟩ = some (.int .i64 0) := (blk_cell BK603.out 0).trans rfl; have hcz30_1 : w28.cell? ⟨gb603, 1, none⟩ = some (.slice none 0 0) := (blk_cell BK603.out 1).trans rfl; have hcz30_2 : w28.cell? ⟨gb603, 2, none⟩ = some (.slice none 0 0) := (blk_cell BK603.out 2).trans rfl; have hfz30_0 := blk_frozen BK603.out 0; have hfz30_1 := blk_frozen BK603.out 1; have hfz30_2 := blk_frozen BK603.out 2) | ((with_reducible refine gC (f := 16) rfl ?_); refine goesL_ (some 45) rfl rfl Try.func16 (by kernel_rfl) rfl #[.agg #[.int .i64 ((rd_T27 l0_4 x40_2).f0), .slice A602_1 ((rd_T27 l0_4 x40_2).f1).length c602_1, .slice A602_2 ((rd_T27 l0_4 x40_2).f2).length c602_2]] rfl pA ?_; (with_reducible refine (impl_TxFault.calls k2 ((rd_T27 l0_4 x40_2).f0) _ _ ((rd_T27 l0_4 x40_2).f1) _ _ ((rd_T27 l0_4 x40_2).f2) t604 _ ?side1 ?side2 ?side3 ?side4 A22.out).mono ?_); (case side1 => exact Kd.C_below HR602_1.out pB); (case side2 => exact HC602_1.out); (case side3 => exact Kd.C_below HR602_2.out pB); (case side4 => exact HC602_2.out); rintro e w31 ⟨rfl, hb⟩; refine ⟨_, rfl, ?_⟩; have n_ := t3 (blk_below (g := gb596) (o := .cells #[.int .i64 a0_0, .int .i64 a0_1, .int .i64 a0_2, .int .i64 a0_3, .slice (some ad602) l0_4.length c0_4] 72 (0, 0)) (by (with_reducible repeat (first | refine blk_drewN ?_ _ | refine blk_drew ?_ | refine blk_alloc ?_ _)); refine blk_far ?_ NB596_603.out _; (with_reducible repeat (first | refine blk_drewN ?_ _ | refine blk_drew ?_ | refine blk_alloc ?_ _)); refine blk_far ?_ NB596_603.out _; (with_reducible repeat (first | refine blk_drewN ?_ _ | refine blk_drew ?_ | refine blk_alloc ?_ _)); refine blk_far ?_ NB596_603.out _; (with_reducible repeat (first | refine blk_drewN ?_ _ | refine blk_drew ?_ | refine blk_alloc ?_ _)); exact BK596.out) hb) (blk_below (g := gb603) (o := .cells #[.int .i64 ((rd_T27 l0_4 x40_2).f0), .slice A602_1 ((rd_T27 l0_4 x40_2).f1).length c602_1, .slice A602_2 ((rd_T27 l0_4 x40_2).f2).length c602_2] 27 (0, 0)) (by (with_reducible repeat (first | refine blk_drewN ?_ _ | refine blk_drew ?_ | refine blk_alloc ?_ _)); refine blk_put (cs := #[.int .i64 ((rd_T27 l0_4 x40_2).f0), .slice A602_1 ((rd_T27 l0_4 x40_2).f1).length c602_1, .slice none 0 0]) ?_ 2 _ rfl; (with_reducible repeat (first | refine blk_drewN ?_ _ | refine blk_drew ?_ | refine blk_alloc ?_ _)); refine blk_put (cs := #[.int .i64 ((rd_T27 l0_4 x40_2).f0), .slice none 0 0, .slice none 0 0]) ?_ 1 _ rfl; (with_reducible repeat (first | refine blk_drewN ?_ _ | refine blk_drew ?_ | refine blk_alloc ?_ _)); refine blk_put (cs := #[.int .i64 0, .slice none 0 0, .slice none 0 0]) ?_ 0 _ rfl; (with_reducible repeat (first | refine blk_drewN ?_ _ | refine blk_drew ?_ | refine blk_alloc ?_ _)); exact BK603.out) hb) (bz_ pB hb); clear BK596 BK603 HB; obtain ⟨BK596, BK603, HB⟩ := n_; (try clear hb)))
                 go_ret
                 exact ⟨pE, pB⟩
             · rw [if_neg c21] at H
               exact absurd H (by simp)
           · rw [if_neg c20] at H
             exact absurd H (by simp)
         · rw [if_neg c19] at H
           have c19b0 : decide (x40_2 < (l0_4.length : Int)) = false := decide_eq_false c19
           clear c19
           have H' := am H
           clear H
           obtain ⟨hcz32_0, hcz32_1, hcz32_2, hcz32_3, hcz32_4, hfz32_0, hfz32_1, hfz32_2, hfz32_3, hfz32_4⟩ := bx5 BK596
           go_wp2
           go_loopg [53] k2 (fun kq v53 w' => ∃ (x53_3 : Int), v53 = .int .i64 x53_3 ∧ Aside0 (impl_BlockFault.l1 kq l0_4 (l0_4.length : Int) x53_3 a0_0 a0_1 a0_2 a0_3 l0_4 = some r) ∧ Aside0 (kq ≤ k2) ∧ Aside0 (w'.heap[gb596]? = some (.cells #[.int .i64 a0_0, .int .i64 a0_1, .int .i64 a0_2, .int .i64 a0_3, (.slice A0_4 l0_4.length c0_4)] 72 (0, 0))) ∧ Aside0 (Below w.heap.size w w'))
           case atStart => exact ⟨(0), pF, H', ⟨Nat.le_refl _⟩, ⟨(pK BK596)⟩, ⟨pB⟩⟩
           case round =>
            clear H'
            (try clear c15); (try clear c17); (try clear c19); (try clear c19b0); (try clear hcz18_0); (try clear hcz18_1); (try clear hcz18_2); (try clear hcz18_3); (try clear hcz18_4); (try clear hcz32_0); (try clear hcz32_1); (try clear hcz32_2); (try clear hcz32_3); (try clear hcz32_4); (try clear hfz18_0); (try clear hfz18_1); (try clear hfz18_2); (try clear hfz18_3); (try clear hfz18_4); (try clear hfz32_0); (try clear hfz32_1); (try clear hfz32_2); (try clear hfz32_3); (try clear hfz32_4)
            obtain ⟨x53_3, rfl, HA, HK3, BK596, HB⟩ := hrel
            cases gk with
            | zero => exact absurd HA.out (by simp [impl_BlockFault.l1])
            | succ k3 =>
             have H := HA.out
             clear HA
             simp only [impl_BlockFault.l1] at H
             by_cases c33 : x53_3 < (l0_4.length : Int)
             · rw [if_pos c33] at H
               have c33b0 : decide (x53_3 < (l0_4.length : Int)) = true := dt c33
               clear c33
               by_cases c34 : 0 ≤ x53_3
               · rw [if_pos c34] at H
                 have c34b0 : decide (0 ≤ x53_3) = true := dt c34
                 clear c34
                 by_cases c35 : x53_3 < (l0_4.length : Int)
                 · rw [if_pos c35] at H
                   have c35b0 : decide (x53_3 < (l0_4.length : Int)) = true := dt c35
                   clear c35
                   obtain ⟨t607, A360, H⟩ := bO H
                   replace H : (if (t607 != (x53_3 == 0)) = true then (some 1) else (impl_BlockFault.l1 k3 l0_4 (l0_4.length : Int) (wrap64 (x53_3 + 1)) a0_0 a0_1 a0_2 a0_3 l0_4)) = some r := H
                   have A36 := am A360; clear A360
                   by_cases c37 : (t607 != (x53_3 == 0)) = true
                   · rw [if_pos c37] at H
                     have c37b0 : (t607 != (x53_3 == 0)) = true := c37
                     (try (have c37b1 : decide (t607 = (x53_3 == 0)) = false := by simpa using c37))
                     (try (have c37b2 : (t607 == (x53_3 == 0)) = false := by simpa using c37))
                     (try (have c37b3 : ¬ (t607 = (x53_3 == 0)) := by simpa using c37))
                     clear c37
                     obtain rfl := sj H
                     have p605 : 0 ≤ (x53_3 : Int) := pD
                     have q605 : x53_3 < (l0_4.length : Int) := pD
                     obtain ⟨ad605, A605_1, c605_1, A605_2, c605_2, e605, hx605_0, hx605_1, hx605_2, hl605_1, hi605_1, hl605_2, hi605_2⟩ := at_T27 HR0_4.out x53_3 p605 q605
                     cases e605; replace hx605_0 := cb HB hx605_0; replace hx605_1 := cb HB hx605_1; replace hx605_2 := cb HB hx605_2; have HR605_1 := am hi605_1; have HC605_1 := am hl605_1; clear hi605_1 hl605_1; have HR605_2 := am hi605_2; have HC605_2 := am hl605_2; clear hi605_2 hl605_2; replace p605 := eq_true p605; replace q605 := eq_true q605
                     go_wp2_with (first | ((with_reducible refine gate_dst (N := 7) rfl ?_); refine box_event ?hg (N := 7) ?hd (cs := #[.int .i64 0, .slice none 0 0, .slice none 0 0]) (t := 27) ?hr ?_; (case hd => rfl); (case hg => rfl); (case hr => first | (go_simp; done) | (go_simp; rfl)); intro gb606 hg w38 hbox hb; have n_ := t7 (blk_below (g := gb596) (o := .cells #[.int .i64 a0_0, .int .i64 a0_1, .int .i64 a0_2, .int .i64 a0_3, .slice (some ad605) l0_4.length c0_4] 72 (0, 0)) (pK BK596) hb) (bz_ pB hb) (hbox) ((by rw [hg]; exact (bs_ pB) : w.heap.size ≤ gb606)) ((by rw [hg]; exact (bs_ pB) : w.heap.size ≤ gb606)) ((by rw [hg]; exact Nat.ne_of_lt (blk_lt (g := gb596) (o := .cells #[.int .i64 a0_0, .int .i64 a0_1, .int .i64 a0_2, .int .i64 a0_3, .slice (some ad605) l0_4.length c0_4] 72 (0, 0)) (pK BK596)) : gb596 ≠ gb606)) ((by rw [hg]; exact Nat.ne_of_gt (blk_lt (g := gb596) (o := .cells #[.int .i64 a0_0, .int .i64 a0_1, .int .i64 a0_2, .int .i64 a0_3, .slice (some ad605) l0_4.length c0_4] 72 (0, 0)) (pK BK596)) : gb606 ≠ gb596)); clear BK596 HB; obtain ⟨BK596, HB, BK606, GW606, GE606, NB596_606, NB606_596⟩ := n_; clear hb hbox hg; have hnb39 := NB606_596.out; have hnc39 := NB596_606.out; have hcz40_0 : w38.cell? ⟨gb606, 0, none⟩ = some (.int .i64 0) := (blk_cell BK606.out 0).trans rfl; have hcz40_1 : w38.cell? ⟨gb606, 1, none⟩ = some (.slice none 0 0) := (blk_cell BK606.out 1).trans rfl; have hcz40_2 : w38.cell? ⟨gb606, 2, none⟩ = some (.slice none 0 0) := (blk_cell BK606.out 2).trans rfl; have hfz40_0 := blk_frozen BK606.out 0; have hfz40_1 := blk_frozen BK606.out 1; have hfz40_2 := blk_frozen BK606.out 2) | ((with_reducible refine gC (f := 93) rfl ?_); refine goesL_ (some 59) rfl rfl Try.func93 (by kernel_rfl) rfl #[.agg #[.int .i64 ((rd_T27 l0_4 x53_3).f0), .slice A605_1 ((rd_T27 l0_4 x53_3).f1).length c605_1, .slice A605_2 ((rd_T27 l0_4 x53_3).f2).length c605_2]] rfl pA ?_; (with_reducible refine (impl_isBase.calls ((rd_T27 l0_4 x53_3).f0) _ _ ((rd_T27 l0_4 x53_3).f1) _ _ ((rd_T27 l0_4 x53_3).f2) t607 _ ?side1 ?side2 ?side3 ?side4 A36.out).mono ?_); (case side1 => exact Kd.C_below HR605_1.out pB); (case side2 => exact HC605_1.out); (case side3 => exact Kd.C_below HR605_2.out pB); (case side4 => exact HC605_2.out); rintro e w41 ⟨rfl, hb⟩; refine ⟨_, rfl, ?_⟩; have n_ := t3 (blk_below (g := gb596) (o := .cells #[.int .i64 a0_0, .int .i64 a0_1, .int .i64 a0_2, .int .i64 a0_3, .slice (some ad605) l0_4.length c0_4] 72 (0, 0)) (by (with_reducible repeat (first | refine blk_drewN ?_ _ | refine blk_drew ?_ | refine blk_alloc ?_ _)); refine blk_far ?_ NB596_606.out _; (with_reducible repeat (first | refine blk_drewN ?_ _ | refine blk_drew ?_ | refine blk_alloc ?_ _)); refine blk_far ?_ NB596_606.out _; (with_reducible repeat (first | refine blk_drewN ?_ _ | refine blk_drew ?_ | refine blk_alloc ?_ _)); refine blk_far ?_ NB596_606.out _; (with_reducible repeat (first | refine blk_drewN ?_ _ | refine blk_drew ?_ | refine blk_alloc ?_ _)); exact BK596.out) hb) (blk_below (g := gb606) (o := .cells #[.int .i64 ((rd_T27 l0_4 x53_3).f0), .slice A605_1 ((rd_T27 l0_4 x53_3).f1).length c605_1, .slice A605_2 ((rd_T27 l0_4 x53_3).f2).length c605_2] 27 (0, 0)) (by (with_reducible repeat (first | refine blk_drewN ?_ _ | refine blk_drew ?_ | refine blk_alloc ?_ _)); refine blk_put (cs := #[.int .i64 ((rd_T27 l0_4 x53_3).f0), .slice A605_1 ((rd_T27 l0_4 x53_3).f1).length c605_1, .slice none 0 0]) ?_ 2 _ rfl; (with_reducible repeat (first | refine blk_drewN ?_ _ | refine blk_drew ?_ | refine blk_alloc ?_ _)); refine blk_put (cs := #[.int .i64 ((rd_T27 l0_4 x53_3).f0), .slice none 0 0, .slice none 0 0]) ?_ 1 _ rfl; (with_reducible repeat (first | refine blk_drewN ?_ _ | refine blk_drew ?_ | refine blk_alloc ?_ _)); refine blk_put (cs := #[.int .i64 0, .slice none 0 0, .slice none 0 0]) ?_ 0 _ rfl; (with_reducible repeat (first | refine blk_drewN ?_ _ | refine blk_drew ?_ | refine blk_alloc ?_ _)); exact BK606.out) hb) (bz_ pB hb); clear BK596 BK606 HB; obtain ⟨BK596, BK606, HB⟩ := n_; (try clear hb)))
                     go_ret
                     exact ⟨pE, pB⟩
                   · rw [if_neg c37] at H
                     have c37b0 : (t607 != (x53_3 == 0)) = false := by simpa using c37
                     (try (have c37b1 : decide (t607 = (x53_3 == 0)) = true := by simpa using c37))
                     (try (have c37b2 : (t607 == (x53_3 == 0)) = true := by simpa using c37))
                     clear c37
                     have H' := am H
                     clear H
                     have p605 : 0 ≤ (x53_3 : Int) := pD
                     have q605 : x53_3 < (l0_4.length : Int) := pD
                     obtain ⟨ad605, A605_1, c605_1, A605_2, c605_2, e605, hx605_0, hx605_1, hx605_2, hl605_1, hi605_1, hl605_2, hi605_2⟩ := at_T27 HR0_4.out x53_3 p605 q605
                     cases e605; replace hx605_0 := cb HB hx605_0; replace hx605_1 := cb HB hx605_1; replace hx605_2 := cb HB hx605_2; have HR605_1 := am hi605_1; have HC605_1 := am hl605_1; clear hi605_1 hl605_1; have HR605_2 := am hi605_2; have HC605_2 := am hl605_2; clear hi605_2 hl605_2; replace p605 := eq_true p605; replace q605 := eq_true q605
                     go_wp2_with (first | ((with_reducible refine gate_dst (N := 7) rfl ?_); refine box_event ?hg (N := 7) ?hd (cs := #[.int .i64 0, .slice none 0 0, .slice none 0 0]) (t := 27) ?hr ?_; (case hd => rfl); (case hg => rfl); (case hr => first | (go_simp; done) | (go_simp; rfl)); intro gb606 hg w42 hbox hb; have n_ := t7 (blk_below (g := gb596) (o := .cells #[.int .i64 a0_0, .int .i64 a0_1, .int .i64 a0_2, .int .i64 a0_3, .slice (some ad605) l0_4.length c0_4] 72 (0, 0)) (pK BK596) hb) (bz_ pB hb) (hbox) ((by rw [hg]; exact (bs_ pB) : w.heap.size ≤ gb606)) ((by rw [hg]; exact (bs_ pB) : w.heap.size ≤ gb606)) ((by rw [hg]; exact Nat.ne_of_lt (blk_lt (g := gb596) (o := .cells #[.int .i64 a0_0, .int .i64 a0_1, .int .i64 a0_2, .int .i64 a0_3, .slice (some ad605) l0_4.length c0_4] 72 (0, 0)) (pK BK596)) : gb596 ≠ gb606)) ((by rw [hg]; exact Nat.ne_of_gt (blk_lt (g := gb596) (o := .cells #[.int .i64 a0_0, .int .i64 a0_1, .int .i64 a0_2, .int .i64 a0_3, .slice (some ad605) l0_4.length c0_4] 72 (0, 0)) (pK BK596)) : gb606 ≠ gb596)); clear BK596 HB; obtain ⟨BK596, HB, BK606, GW606, GE606, NB596_606, NB606_596⟩ := n_; clear hb hbox hg; have hnb43 := NB606_596.out; have hnc43 := NB596_606.out; have hcz44_0 : w42.cell? ⟨gb606, 0, none⟩ = some (.int .i64 0) := (blk_cell BK606.out 0).trans rfl; have hcz44_1 : w42.cell? ⟨gb606, 1, none⟩ = some (.slice none 0 0) := (blk_cell BK606.out 1).trans rfl; have hcz44_2 : w42.cell? ⟨gb606, 2, none⟩ = some (.slice none 0 0) := (blk_cell BK606.out 2).trans rfl; have hfz44_0 := blk_frozen BK606.out 0; have hfz44_1 := blk_frozen BK606.out 1; have hfz44_2 := blk_frozen BK606.out 2) | ((with_reducible refine gC (f := 93) rfl ?_); refine goesL_ (some 59) rfl rfl Try.func93 (by kernel_rfl) rfl #[.agg #[.int .i64 ((rd_T27 l0_4 x53_3).f0), .slice A605_1 ((rd_T27 l0_4 x53_3).f1).length c605_1, .slice A605_2 ((rd_T27 l0_4 x53_3).f2).length c605_2]] rfl pA ?_; (with_reducible refine (impl_isBase.calls ((rd_T27 l0_4 x53_3).f0) _ _ ((rd_T27 l0_4 x53_3).f1) _ _ ((rd_T27 l0_4 x53_3).f2) t607 _ ?side1 ?side2 ?side3 ?side4 A36.out).mono ?_); (case side1 => exact Kd.C_below HR605_1.out pB); (case side2 => exact HC605_1.out); (case side3 => exact Kd.C_below HR605_2.out pB); (case side4 => exact HC605_2.out); rintro e w45 ⟨rfl, hb⟩; refine ⟨_, rfl, ?_⟩; have n_ := t3 (blk_below (g := gb596) (o := .cells #[.int .i64 a0_0, .int .i64 a0_1, .int .i64 a0_2, .int .i64 a0_3, .slice (some ad605) l0_4.length c0_4] 72 (0, 0)) (by (with_reducible repeat (first | refine blk_drewN ?_ _ | refine blk_drew ?_ | refine blk_alloc ?_ _)); refine blk_far ?_ NB596_606.out _; (with_reducible repeat (first | refine blk_drewN ?_ _ | refine blk_drew ?_ | refine blk_alloc ?_ _)); refine blk_far ?_ NB596_606.out _; (with_reducible repeat (first | refine blk_drewN ?_ _ | refine blk_drew ?_ | refine blk_alloc ?_ _)); refine blk_far ?_ NB596_606.out _; (with_reducible repeat (first | refine blk_drewN ?_ _ | refine blk_drew ?_ | refine blk_alloc ?_ _)); exact BK596.out) hb) (blk_below (g := gb606) (o := .cells #[.int .i64 ((rd_T27 l0_4 x53_3).f0), .slice A605_1 ((rd_T27 l0_4 x53_3).f1).length c605_1, .slice A605_2 ((rd_T27 l0_4 x53_3).f2).length c605_2] 27 (0, 0)) (by (with_reducible repeat (first | refine blk_drewN ?_ _ | refine blk_drew ?_ | refine blk_alloc ?_ _)); refine blk_put (cs := #[.int .i64 ((rd_T27 l0_4 x53_3).f0), .slice A605_1 ((rd_T27 l0_4 x53_3).f1).length c605_1, .slice none 0 0]) ?_ 2 _ rfl; (with_reducible repeat (first | refine blk_drewN ?_ _ | refine blk_drew ?_ | refine blk_alloc ?_ _)); refine blk_put (cs := #[.int .i64 ((rd_T27 l0_4 x53_3).f0), .slice none 0 0, .slice none 0 0]) ?_ 1 _ rfl; (with_reducible repeat (first | refine blk_drewN ?_ _ | refine blk_drew ?_ | refine blk_alloc ?_ _)); refine blk_put (cs := #[.int .i64 0, .slice none 0 0, .slice none 0 0]) ?_ 0 _ rfl; (with_reducible repeat (first | refine blk_drewN ?_ _ | refine blk_drew ?_ | refine blk_alloc ?_ _)); exact BK606.out) hb) (bz_ pB hb); clear BK596 BK606 HB; obtain ⟨BK596, BK606, HB⟩ := n_; (try clear hb)))
                     go_roundg k3
                     case measure => have := HJ1.out; have := HK2.out; have := HK3.out; omega
                     case rel => exact ⟨(wrap64 (x53_3 + 1)), pF, H', ⟨by have := HJ1.out; have := HK2.out; have := HK3.out; omega⟩, ⟨(pK BK596)⟩, ⟨pB⟩⟩
                 · rw [if_neg c35] at H
                   exact absurd H (by simp)
               · rw [if_neg c34] at H
                 exact absurd H (by simp)
             · rw [if_neg c33] at H
               have c33b0 : decide (x53_3 < (l0_4.length : Int)) = false := decide_eq_false c33
               clear c33
               obtain ⟨t608, A460, H⟩ := bO H
               replace H : ((impl_HasTwin.f k3 t608).bind fun t611 => (if t611 = true then (some 6) else (some 0))) = some r := H
               have A46 := am A460; clear A460
               obtain ⟨t611, A470, H⟩ := bO H
               replace H : (if t611 = true then (some 6) else (some 0)) = some r := H
               have A47 := am A470; clear A470
               by_cases c48 : t611 = true
               · subst c48
                 have H1 : (some 6) = some r := by rw [if_pos rfl] at H; exact H
                 clear H; have H := H1; clear H1
                 obtain rfl := sj H
                 obtain ⟨hcz49_0, hcz49_1, hcz49_2, hcz49_3, hcz49_4, hfz49_0, hfz49_1, hfz49_2, hfz49_3, hfz49_4⟩ := bx5 BK596
                 go_wp2_with (first | ((with_reducible refine gC (f := 95) rfl ?_); refine goesL_ (some 65) rfl rfl Try.func95 (by kernel_rfl) rfl #[.agg #[.int .i64 a0_0, .int .i64 a0_1, .int .i64 a0_2, .int .i64 a0_3, .slice A0_4 l0_4.length c0_4]] rfl pA ?_; (with_reducible refine (impl_txSums.calls k3 a0_0 a0_1 a0_2 a0_3 _ _ l0_4 t608 _ ?side1 ?side2 A46.out).mono ?_); (case side1 => exact pC (Kd.C_below HR0_4.out HB.out)); (case side2 => exact HC0_4.out); rintro e w50 ⟨v609, rfl, ho0, hb⟩; refine ⟨_, rfl, ?_⟩; have n_ := t3 (rL ho0 (bs_ pB)) (blk_below (g := gb596) (o := .cells #[.int .i64 a0_0, .int .i64 a0_1, .int .i64 a0_2, .int .i64 a0_3, .slice A0_4 l0_4.length c0_4] 72 (0, 0)) (pK BK596) hb) (bz_ pB hb); clear BK596 HB; obtain ⟨HO610, BK596, HB⟩ := n_; (try clear hb); (try clear ho0); obtain ⟨Ao51, co51, eo51⟩ := rS HO610.out; subst eo51) | ((with_reducible refine gC (f := 94) rfl ?_); refine goesL_ (some 66) rfl rfl Try.func94 (by kernel_rfl) rfl #[.slice Ao51 t608.length co51] rfl pA ?_; (with_reducible refine (impl_HasTwin.calls k3 (fun k_ => some k_ = (.slice Ao51 t608.length co51 : Value).ownBlock) _ _ t608 true _ ?side1 A47.out).mono ?_); (case side1 => exact Kd.R_V (Kd.R_tight rfl (Kd.R_types (HO610.out) BK596.out (by decide)))); rintro e w52 ⟨rfl, hb⟩; refine ⟨_, rfl, ?_⟩; have n_ := t3 (Kd.R_below (pR HO610) hb) (blk_below (g := gb596) (o := .cells #[.int .i64 a0_0, .int .i64 a0_1, .int .i64 a0_2, .int .i64 a0_3, .slice A0_4 l0_4.length c0_4] 72 (0, 0)) (pK BK596) hb) (bz_ pB hb); clear HO610 BK596 HB; obtain ⟨HO610, BK596, HB⟩ := n_; (try clear hb)))
                 go_ret
                 exact ⟨pE, pB⟩
               · replace c48 := Bool.eq_false_iff.mpr c48
                 subst c48
                 have H1 : (some 0) = some r := by rw [if_neg (show ¬ (false = true) by decide)] at H; exact H
                 clear H; have H := H1; clear H1
                 obtain rfl := sj H
                 obtain ⟨hcz53_0, hcz53_1, hcz53_2, hcz53_3, hcz53_4, hfz53_0, hfz53_1, hfz53_2, hfz53_3, hfz53_4⟩ := bx5 BK596
                 go_wp2_with (first | ((with_reducible refine gC (f := 95) rfl ?_); refine goesL_ (some 65) rfl rfl Try.func95 (by kernel_rfl) rfl #[.agg #[.int .i64 a0_0, .int .i64 a0_1, .int .i64 a0_2, .int .i64 a0_3, .slice A0_4 l0_4.length c0_4]] rfl pA ?_; (with_reducible refine (impl_txSums.calls k3 a0_0 a0_1 a0_2 a0_3 _ _ l0_4 t608 _ ?side1 ?side2 A46.out).mono ?_); (case side1 => exact pC (Kd.C_below HR0_4.out HB.out)); (case side2 => exact HC0_4.out); rintro e w54 ⟨v609, rfl, ho0, hb⟩; refine ⟨_, rfl, ?_⟩; have n_ := t3 (rL ho0 (bs_ pB)) (blk_below (g := gb596) (o := .cells #[.int .i64 a0_0, .int .i64 a0_1, .int .i64 a0_2, .int .i64 a0_3, .slice A0_4 l0_4.length c0_4] 72 (0, 0)) (pK BK596) hb) (bz_ pB hb); clear BK596 HB; obtain ⟨HO610, BK596, HB⟩ := n_; (try clear hb); (try clear ho0); obtain ⟨Ao55, co55, eo55⟩ := rS HO610.out; subst eo55) | ((with_reducible refine gC (f := 94) rfl ?_); refine goesL_ (some 66) rfl rfl Try.func94 (by kernel_rfl) rfl #[.slice Ao55 t608.length co55] rfl pA ?_; (with_reducible refine (impl_HasTwin.calls k3 (fun k_ => some k_ = (.slice Ao55 t608.length co55 : Value).ownBlock) _ _ t608 false _ ?side1 A47.out).mono ?_); (case side1 => exact Kd.R_V (Kd.R_tight rfl (Kd.R_types (HO610.out) BK596.out (by decide)))); rintro e w56 ⟨rfl, hb⟩; refine ⟨_, rfl, ?_⟩; have n_ := t3 (Kd.R_below (pR HO610) hb) (blk_below (g := gb596) (o := .cells #[.int .i64 a0_0, .int .i64 a0_1, .int .i64 a0_2, .int .i64 a0_3, .slice A0_4 l0_4.length c0_4] 72 (0, 0)) (pK BK596) hb) (bz_ pB hb); clear HO610 BK596 HB; obtain ⟨HO610, BK596, HB⟩ := n_; (try clear hb)))
                 go_ret
                 exact ⟨pE, pB⟩
     · replace c17 := Bool.eq_false_iff.mpr c17
       subst c17
       have H1 : (some 2) = some r := by rw [if_neg (show ¬ (false = true) by decide)] at H; exact H
       clear H; have H := H1; clear H1
       obtain rfl := sj H
       obtain ⟨hcz57_0, hcz57_1, hcz57_2, hcz57_3, hcz57_4, hfz57_0, hfz57_1, hfz57_2, hfz57_3, hfz57_4⟩ := bx5 BK596
       go_wp2_with (first | ((with_reducible refine gC (f := 57) rfl ?_); refine goesL_ (some 35) rfl rfl Try.func57 (by kernel_rfl) rfl #[.int .i64 (l0_4.length : Int), .int .i64 1, .int .i64 4] rfl pA ?_; (with_reducible refine (impl_in.calls (l0_4.length : Int) 1 4 false _ A16.out).mono ?_); rintro e w' ⟨rfl, ⟨nd, rfl⟩⟩; refine ⟨_, rfl, ?_⟩))
       go_ret
       exact ⟨pE, pB⟩
def impl_rootOf.l0 : Nat → List Int → Option (Int)
 | 0, _ => none
 | k + 1, x0 => if (x0.length : Int) > 1 then ((impl_above.f k x0).bind fun t612 => (impl_rootOf.l0 k t612)) else (if 0 < (x0.length : Int) then (some (rd x0 0)) else (none))
def impl_rootOf.f (k : Nat) (l0 : List Int) : Option (Int) := impl_rootOf.l0 k l0
theorem impl_rootOf.mono_l : ∀ k, (∀ y0, LeO (impl_rootOf.l0 k y0) (impl_rootOf.l0 (k + 1) y0))
 | 0 => fun _ r h => by simp [impl_rootOf.l0] at h
 | k + 1 => by
  have ih0 := impl_rootOf.mono_l k
  · intro y0
    unfold impl_rootOf.l0
    repeat' with_reducible first | exact ih0 _ | exact impl_above.mono _ _ | exact LeO.refl _ | exact LeO.none _ | refine LeO.ite ?_ ?_ | refine LeO.bind ?_ (fun _ => ?_)
theorem impl_rootOf.mono : ∀ a0 k, LeO (impl_rootOf.f k a0) (impl_rootOf.f (k + 1) a0) := by
 intro a0 k
 have ih0 := impl_rootOf.mono_l k
 unfold impl_rootOf.f
 repeat' with_reducible first | exact ih0 _ | exact impl_above.mono _ _ | exact LeO.refl _ | exact LeO.none _ | refine LeO.ite ?_ ?_ | refine LeO.bind ?_ (fun _ => ?_)
theorem impl_rootOf.calls (k : Nat) (P0_ : Nat → Prop) (A0 : Option Addr) (c0 : Nat) (l0 : List Int) (r : Int) (w : World) (hs0 : Kd.V (Kd.int .i64) 2 w w.heap.size (fun k_ => P0_ k_) (.slice A0 l0.length c0) l0) (h : impl_rootOf.f k l0 = some r) :
 Calls Try.prog 99 #[.slice A0 l0.length c0] w fun e w' => e = .returned (.int .i64 r) ∧ Below w.heap.size w w' := by
 have HO0 := am (show Kd.V (Kd.int .i64) 2 w w.heap.size (fun k_ => (P0_ k_ ∨ w.heap.size ≤ k_)) (.slice A0 l0.length c0) l0 from Kd.V_mono hs0 (fun k_ hk => .inl hk))
 have HB := am (Below.refl w.heap.size w)
 have H : (impl_rootOf.l0 k l0) = some r := h
 clear h
 have H' := am H
 clear H
 go_enter Try.func99, Try.ntmps99
 go_wp2
 go_loopg [0] k (fun kq v0 w' => ∃ (x0_1 : List Int), Aside0 (impl_rootOf.l0 kq x0_1 = some r) ∧ Aside0 (kq ≤ k) ∧ Aside0 (Kd.V (Kd.int .i64) 2 w' w.heap.size (fun k_ => (P0_ k_ ∨ w.heap.size ≤ k_)) v0 x0_1) ∧ Aside0 (Below w.heap.size w w'))
 case atStart => exact ⟨(l0), H', ⟨Nat.le_refl _⟩, ⟨by (with_reducible repeat (first | apply Kd.V_alloc | apply Kd.V_drewN | apply Kd.V_drew)); exact HO0.out⟩, ⟨pB⟩⟩
 case round =>
  clear H'
  obtain ⟨x0_1, HA, HK1, HO_0, HB⟩ := hrel
  cases gk with
  | zero => exact absurd HA.out (by simp [impl_rootOf.l0])
  | succ k1 =>
   have H := HA.out
   clear HA
   simp only [impl_rootOf.l0] at H
   by_cases c2 : (x0_1.length : Int) > 1
   · rw [if_pos c2] at H
     have c2b0 : decide (1 < (x0_1.length : Int)) = true := dt c2
     have c2b1 : decide (1 < x0_1.length) = true := dt (by omega)
     clear c2
     obtain ⟨t612, A30, H⟩ := bO H
     replace H : (impl_rootOf.l0 k1 t612) = some r := H
     have A3 := am A30; clear A30
     have H' := am H
     clear H
     obtain ⟨Ao4, co4, eo4⟩ := Kd.V_slice HO_0.out
     subst eo4
     go_wp2_with (first | ((with_reducible refine gC (f := 135) rfl ?_); refine goesL_ (some 7) rfl rfl Try.func135 (by kernel_rfl) rfl #[.slice Ao4 x0_1.length co4] rfl pA ?_; (with_reducible refine (impl_above.calls k1 _ _ x0_1 t612 _ ?side1 ?side2 A3.out).mono ?_); (case side1 => exact pC (Kd.V_reads' HO_0.out).2.2); (case side2 => exact (Kd.V_reads' HO_0.out).2.1); rintro e w5 ⟨v613, rfl, ho0, hb⟩; refine ⟨_, rfl, ?_⟩; have n_ := t3 (Kd.V_elder' (by (with_reducible repeat (first | apply Kd.V_alloc | apply Kd.V_drewN | apply Kd.V_drew)); exact HO_0.out) (rB ho0) hb) (rL (Kd.R_newM (M := fun k_ => (w.heap.size ≤ k_)) ho0 (bs_ pB) (fun k_ h_ => h_)) (bs_ pB)) (bz_ pB hb); clear HO_0 HB; obtain ⟨HO_0, HO614, HB⟩ := n_; (try clear hb); (try clear ho0)))
     go_roundg k1
     case measure => have := HK1.out; omega
     case rel => exact ⟨(t612), H', ⟨by have := HK1.out; omega⟩, ⟨Kd.V_mono (Kd.R_V (pT (Kd.R_mono HO614.out (fun _ hk => hk.1)))) (fun k_ hk => by first | exact ⟨(.inr (hk.1)), hk.2⟩ | exact (.inr (hk)))⟩, ⟨pB⟩⟩
   · rw [if_neg c2] at H
     have c2b0 : decide (1 < (x0_1.length : Int)) = false := decide_eq_false c2
     have c2b1 : decide (1 < x0_1.length) = false := decide_eq_false (by omega)
     clear c2
     by_cases c6 : 0 < (x0_1.length : Int)
     · rw [if_pos c6] at H
       have c6b0 : decide (0 < (x0_1.length : Int)) = true := dt c6
       have c6b1 : decide (0 < x0_1.length) = true := dt (by omega)
       clear c6
       obtain rfl := sj H
       obtain ⟨Ao7, co7, eo7⟩ := Kd.V_slice HO_0.out
       subst eo7
       have p615 : 0 ≤ (0 : Int) := (by omega)
       have q615 : 0 < (x0_1.length : Int) := pD
       obtain ⟨ad615, e615, hx615_0⟩ := Kd.at_int (Kd.V_reads' HO_0.out).2.2 0 p615 q615
       cases e615
       have qi615 : (0 < x0_1.length) = True := eq_true (by omega)
       (try rw [show ((0 : Int)).toNat = 0 from rfl] at hx615_0)
       (try rw [Addr.add_zero'] at hx615_0); replace p615 := eq_true p615; replace q615 := eq_true q615
       go_wp2
       go_ret
       exact ⟨pE, pB⟩
     · rw [if_neg c6] at H
       exact absurd H (by simp)
end Go.Proofs.Ythjlbpgiaehjnaa.QFnExactBlockRoot
