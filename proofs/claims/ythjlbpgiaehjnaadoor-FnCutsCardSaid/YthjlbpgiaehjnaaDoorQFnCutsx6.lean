-- written by this session's program (wip/tools/myprint.py)
import Derived.Test.YthjlbpgiaehjnaaDoorQFnCutsx0
import Derived.Test.YthjlbpgiaehjnaaDoorQFnCutsx5
-- squeezed
namespace Go.Proofs.YthjlbpgiaehjnaaDoor.QFnCuts
open Go.RowKit Go.Proofs.YthjlbpgiaehjnaaDoorW.PrintWords Go.Proofs.YthjlbpgiaehjnaaDoorW.PrintLast Go.Proofs.YthjlbpgiaehjnaaDoorW.PrintMore
attribute [local go_sem] max2_int min2_int max_two min_two max_three min_three max_four min_four   -- for this text's walks alone
set_option linter.unusedVariables false
set_option linter.unusedSimpArgs false
set_option maxHeartbeats 8000000
set_option maxRecDepth 100000
mutual
def impl_valFault.j0 : Nat → Int → Int → Int → ByteArray → Option (Int)
 | 0, _, _, _, _ => none
 | k + 1, x3, x281000, x281001, x281002 => (impl_in.f x281000 1 6).bind fun t281 => (if t281 = true then (if x281000 = 4 then (if x281000 = 1 then (impl_valFault.j1 k x3 (x281001 != 0) x281000 x281001 x281002) else (impl_valFault.j1 k x3 (x281001 != 0) x281000 x281001 x281002)) else (if x281002.toList = ([] : List UInt8) then (if x281000 = 1 then (impl_valFault.j1 k x3 (x281001 != 0) x281000 x281001 x281002) else (impl_valFault.j1 k x3 false x281000 x281001 x281002)) else (impl_valFault.j1 k x3 true x281000 x281001 x281002))) else (impl_valFault.j1 k x3 true x281000 x281001 x281002))
def impl_valFault.j1 : Nat → Int → Bool → Int → Int → ByteArray → Option (Int)
 | 0, _, _, _, _, _ => none
 | k + 1, x3, x13, x281000, x281001, x281002 => if x13 = true then (some 1) else ((impl_in.f x281001 0 x3).bind fun t282 => (if t282 = true then ((impl_textOk.f k x281002).bind fun t283 => (if t283 = true then (some 0) else (some 5))) else (some 3)))
end
def impl_valFault.f (k : Nat) (a0_0 : Int) (a0_1 : Int) (a0_2 : ByteArray) : Option (Int) := if a0_0 = 2 then (impl_valFault.j0 k 1 a0_0 a0_1 a0_2) else (if a0_0 = 3 then (impl_valFault.j0 k 2147483646 a0_0 a0_1 a0_2) else (if a0_0 = 5 then (impl_valFault.j0 k 20 a0_0 a0_1 a0_2) else (if a0_0 = 6 then (impl_valFault.j0 k 20 a0_0 a0_1 a0_2) else (impl_valFault.j0 k 0 a0_0 a0_1 a0_2))))
theorem impl_valFault.mono_l : ∀ k, (∀ y0 y1 y2 y3, LeO (impl_valFault.j0 k y0 y1 y2 y3) (impl_valFault.j0 (k + 1) y0 y1 y2 y3)) ∧ (∀ y0 y1 y2 y3 y4, LeO (impl_valFault.j1 k y0 y1 y2 y3 y4) (impl_valFault.j1 (k + 1) y0 y1 y2 y3 y4))
 | 0 => ⟨fun _ _ _ _ r h => by simp [impl_valFault.j0] at h, fun _ _ _ _ _ r h => by simp [impl_valFault.j1] at h⟩
 | k + 1 => by
  obtain ⟨ih0, ih1⟩ := impl_valFault.mono_l k
  refine ⟨?_, ?_⟩
  · intro y0 y1 y2 y3
    unfold impl_valFault.j0
    repeat' with_reducible first | exact ih0 _ _ _ _ | exact ih1 _ _ _ _ _ | exact impl_textOk.mono _ _ | exact LeO.refl _ | exact LeO.none _ | refine LeO.ite ?_ ?_ | refine LeO.bind ?_ (fun _ => ?_)
  · intro y0 y1 y2 y3 y4
    unfold impl_valFault.j1
    repeat' with_reducible first | exact ih0 _ _ _ _ | exact ih1 _ _ _ _ _ | exact impl_textOk.mono _ _ | exact LeO.refl _ | exact LeO.none _ | refine LeO.ite ?_ ?_ | refine LeO.bind ?_ (fun _ => ?_)
theorem impl_valFault.mono : ∀ a0 a1 a2 k, LeO (impl_valFault.f k a0 a1 a2) (impl_valFault.f (k + 1) a0 a1 a2) := by
 intro a0 a1 a2 k
 obtain ⟨ih0, ih1⟩ := impl_valFault.mono_l k
 unfold impl_valFault.f
 repeat' with_reducible first | exact ih0 _ _ _ _ | exact ih1 _ _ _ _ _ | exact impl_textOk.mono _ _ | exact LeO.refl _ | exact LeO.none _ | refine LeO.ite ?_ ?_ | refine LeO.bind ?_ (fun _ => ?_)
theorem impl_valFault.calls (k : Nat) (a0_0 : Int) (a0_1 : Int) (a0_2 : ByteArray) (r : Int) (w : World) (h : impl_valFault.f k a0_0 a0_1 a0_2 = some r) :
 Calls Tryd.prog 63 #[.agg #[.int .i64 a0_0, .int .i64 a0_1, .string a0_2]] w fun e w' => e = .returned (.int .i64 r) ∧ Below w.heap.size w w' := by
 have hu81 := Tryd.underlying81
 have HB := am (Below.refl w.heap.size w)
 have H : (if a0_0 = 2 then (impl_valFault.j0 k 1 a0_0 a0_1 a0_2) else (if a0_0 = 3 then (impl_valFault.j0 k 2147483646 a0_0 a0_1 a0_2) else (if a0_0 = 5 then (impl_valFault.j0 k 20 a0_0 a0_1 a0_2) else (if a0_0 = 6 then (impl_valFault.j0 k 20 a0_0 a0_1 a0_2) else (impl_valFault.j0 k 0 a0_0 a0_1 a0_2))))) = some r := h
 clear h; have HC2 := am H; clear H
 go_enter Tryd.func63, Tryd.ntmps63
 go_upto_block 0 with (first | ((with_reducible refine gate_dst (N := 1) rfl ?_); refine box_event ?hg (N := 1) ?hd (cs := #[.int .i64 a0_0, .int .i64 a0_1, .string a0_2]) (t := 81) ?hr ?_; (case hd => rfl); (case hg => rfl); (case hr => first | (go_simp; done) | (go_simp; rfl)); intro gb280 hg w3 hbox hb; have n_ := t4 (bz_ pB hb) (hbox) ((by rw [hg]; exact (bs_ pB) : w.heap.size ≤ gb280)) ((by rw [hg]; exact (bs_ pB) : w.heap.size ≤ gb280)); clear HB; obtain ⟨HB, BK280, GW280, GE280⟩ := n_; clear hb hbox hg; have hcz4_0 : w3.cell? ⟨gb280, 0, none⟩ = some (.int .i64 a0_0) := (blk_cell BK280.out 0).trans rfl; have hcz4_1 : w3.cell? ⟨gb280, 1, none⟩ = some (.int .i64 a0_1) := (blk_cell BK280.out 1).trans rfl; have hcz4_2 : w3.cell? ⟨gb280, 2, none⟩ = some (.string a0_2) := (blk_cell BK280.out 2).trans rfl; have hfz4_0 := blk_frozen BK280.out 0; have hfz4_1 := blk_frozen BK280.out 1; have hfz4_2 := blk_frozen BK280.out 2))
 (try simp only [Act.put, List.setIfInBounds_toArray, List.set_cons_zero, List.set_cons_succ])
 go_cut [3] (fun v3 wc => ∃ (kq : Nat) (x3_1 : Int), v3 = .int .i64 x3_1 ∧ Aside0 (impl_valFault.j0 kq x3_1 a0_0 a0_1 a0_2 = some r) ∧ Aside0 (kq ≤ k) ∧ Aside0 (wc.heap[gb280]? = some (.cells #[.int .i64 a0_0, .int .i64 a0_1, .string a0_2] 81 (0, 0))) ∧ Aside0 (Below w.heap.size w wc))
 case first =>
  have H := HC2.out
  clear HC2
  by_cases c5 : a0_0 = 2
  · rw [if_pos c5] at H
    have c5b0 : (a0_0 == 2) = true := beq_iff_eq.mpr c5
    have c5b1 : (a0_0 != 2) = false := bne_eq_false_iff_eq.mpr c5
    clear c5
    (first | rw [c5b0] | (simp only [i64_w, i32_w]; rw [c5b0]) | skip)
    have H' := am H
    clear H
    go_wp2
    go_meet
    case rel => exact ⟨_, (1), pF, H', ⟨by first | omega | exact Nat.le_refl _⟩, ⟨(pK BK280)⟩, ⟨pB⟩⟩
  · rw [if_neg c5] at H
    have c5b0 : (a0_0 == 2) = false := beq_eq_false_iff_ne.mpr c5
    have c5b1 : (a0_0 != 2) = true := bne_iff_ne.mpr c5
    (first | rw [c5b0] | (simp only [i64_w, i32_w]; rw [c5b0]) | skip)
    by_cases c6 : a0_0 = 3
    · rw [if_pos c6] at H
      have c6b0 : (a0_0 == 3) = true := beq_iff_eq.mpr c6
      have c6b1 : (a0_0 != 3) = false := bne_eq_false_iff_eq.mpr c6
      clear c6
      have H' := am H
      clear H
      go_wp2
      go_meet
      case rel => exact ⟨_, (2147483646), pF, H', ⟨by first | omega | exact Nat.le_refl _⟩, ⟨(pK BK280)⟩, ⟨pB⟩⟩
    · rw [if_neg c6] at H
      have c6b0 : (a0_0 == 3) = false := beq_eq_false_iff_ne.mpr c6
      have c6b1 : (a0_0 != 3) = true := bne_iff_ne.mpr c6
      by_cases c7 : a0_0 = 5
      · rw [if_pos c7] at H
        have c7b0 : (a0_0 == 5) = true := beq_iff_eq.mpr c7
        have c7b1 : (a0_0 != 5) = false := bne_eq_false_iff_eq.mpr c7
        clear c7
        have H' := am H
        clear H
        go_wp2
        go_meet
        case rel => exact ⟨_, (20), pF, H', ⟨by first | omega | exact Nat.le_refl _⟩, ⟨(pK BK280)⟩, ⟨pB⟩⟩
      · rw [if_neg c7] at H
        have c7b0 : (a0_0 == 5) = false := beq_eq_false_iff_ne.mpr c7
        have c7b1 : (a0_0 != 5) = true := bne_iff_ne.mpr c7
        by_cases c8 : a0_0 = 6
        · rw [if_pos c8] at H
          have c8b0 : (a0_0 == 6) = true := beq_iff_eq.mpr c8
          have c8b1 : (a0_0 != 6) = false := bne_eq_false_iff_eq.mpr c8
          clear c8
          have H' := am H
          clear H
          go_wp2
          go_meet
          case rel => exact ⟨_, (20), pF, H', ⟨by first | omega | exact Nat.le_refl _⟩, ⟨(pK BK280)⟩, ⟨pB⟩⟩
        · rw [if_neg c8] at H
          have c8b0 : (a0_0 == 6) = false := beq_eq_false_iff_ne.mpr c8
          have c8b1 : (a0_0 != 6) = true := bne_iff_ne.mpr c8
          have H' := am H
          clear H
          go_wp2
          go_meet
          case rel => exact ⟨_, (0), pF, H', ⟨by first | omega | exact Nat.le_refl _⟩, ⟨(pK BK280)⟩, ⟨pB⟩⟩
 case rest =>
  clear HC2; (try clear hcz4_0); (try clear hcz4_1); (try clear hcz4_2); (try clear hfz4_0); (try clear hfz4_1); (try clear hfz4_2)
  obtain ⟨kq, x3_1, rfl, HA, HJ1, BK280, HB⟩ := hcut
  cases kq with
  | zero => exact absurd HA.out (by simp [impl_valFault.j0])
  | succ kj1 =>
   have H := HA.out
   clear HA
   simp only [impl_valFault.j0] at H
   have HC9 := am H; clear H
   go_upto_region 10 with (fail)
   go_cut [13] (fun v13 wc => ∃ (kq : Nat) (x13_8 : Bool), v13 = .bool x13_8 ∧ Aside0 (impl_valFault.j1 kq x3_1 x13_8 a0_0 a0_1 a0_2 = some r) ∧ Aside0 (kq ≤ kj1) ∧ Aside0 (wc.heap[gb280]? = some (.cells #[.int .i64 a0_0, .int .i64 a0_1, .string a0_2] 81 (0, 0))) ∧ Aside0 (Below w.heap.size w wc))
   case first =>
    have H := HC9.out
    clear HC9
    obtain ⟨t281, A100, H⟩ := bO H
    replace H : (if t281 = true then (if a0_0 = 4 then (if a0_0 = 1 then (impl_valFault.j1 kj1 x3_1 (a0_1 != 0) a0_0 a0_1 a0_2) else (impl_valFault.j1 kj1 x3_1 (a0_1 != 0) a0_0 a0_1 a0_2)) else (if a0_2.toList = ([] : List UInt8) then (if a0_0 = 1 then (impl_valFault.j1 kj1 x3_1 (a0_1 != 0) a0_0 a0_1 a0_2) else (impl_valFault.j1 kj1 x3_1 false a0_0 a0_1 a0_2)) else (impl_valFault.j1 kj1 x3_1 true a0_0 a0_1 a0_2))) else (impl_valFault.j1 kj1 x3_1 true a0_0 a0_1 a0_2)) = some r := H
    have A10 := am A100; clear A100
    by_cases c11 : t281 = true
    · subst c11
      have H1 : (if a0_0 = 4 then (if a0_0 = 1 then (impl_valFault.j1 kj1 x3_1 (a0_1 != 0) a0_0 a0_1 a0_2) else (impl_valFault.j1 kj1 x3_1 (a0_1 != 0) a0_0 a0_1 a0_2)) else (if a0_2.toList = ([] : List UInt8) then (if a0_0 = 1 then (impl_valFault.j1 kj1 x3_1 (a0_1 != 0) a0_0 a0_1 a0_2) else (impl_valFault.j1 kj1 x3_1 false a0_0 a0_1 a0_2)) else (impl_valFault.j1 kj1 x3_1 true a0_0 a0_1 a0_2))) = some r := by rw [if_pos rfl] at H; exact H
      clear H; have H := H1; clear H1
      by_cases c12 : a0_0 = 4
      · rw [if_pos c12] at H
        have c12b0 : (a0_0 == 4) = true := beq_iff_eq.mpr c12
        have c12b1 : (a0_0 != 4) = false := bne_eq_false_iff_eq.mpr c12
        clear c12
        (first | rw [c12b0] | (simp only [i64_w, i32_w]; rw [c12b0]) | skip)
        by_cases c13 : a0_0 = 1
        · rw [if_pos c13] at H
          have c13b0 : (a0_0 == 1) = true := beq_iff_eq.mpr c13
          have c13b1 : (a0_0 != 1) = false := bne_eq_false_iff_eq.mpr c13
          clear c13
          have H' := am H
          clear H
          obtain ⟨hcz14_0, hcz14_1, hcz14_2, hfz14_0, hfz14_1, hfz14_2⟩ := bx3 BK280
          go_wp2_with (first | ((with_reducible refine gC (f := 39) rfl ?_); refine goesL_ (some 16) rfl rfl Tryd.func39 (by kernel_rfl) rfl #[.int .i64 a0_0, .int .i64 1, .int .i64 6] rfl pA ?_; (with_reducible refine (impl_in.calls a0_0 1 6 true _ A10.out).mono ?_); rintro e w' ⟨rfl, ⟨nd, rfl⟩⟩; refine ⟨_, rfl, ?_⟩))
          go_meet
          case rel => exact ⟨_, ((a0_1 != 0)), pF, H', ⟨by have := HJ1.out; first | omega | exact Nat.le_refl _⟩, ⟨(pK BK280)⟩, ⟨pB⟩⟩
        · rw [if_neg c13] at H
          have c13b0 : (a0_0 == 1) = false := beq_eq_false_iff_ne.mpr c13
          have c13b1 : (a0_0 != 1) = true := bne_iff_ne.mpr c13
          have H' := am H
          clear H
          obtain ⟨hcz15_0, hcz15_1, hcz15_2, hfz15_0, hfz15_1, hfz15_2⟩ := bx3 BK280
          go_wp2_with (first | ((with_reducible refine gC (f := 39) rfl ?_); refine goesL_ (some 16) rfl rfl Tryd.func39 (by kernel_rfl) rfl #[.int .i64 a0_0, .int .i64 1, .int .i64 6] rfl pA ?_; (with_reducible refine (impl_in.calls a0_0 1 6 true _ A10.out).mono ?_); rintro e w' ⟨rfl, ⟨nd, rfl⟩⟩; refine ⟨_, rfl, ?_⟩))
          go_meet
          case rel => exact ⟨_, ((a0_1 != 0)), pF, H', ⟨by have := HJ1.out; first | omega | exact Nat.le_refl _⟩, ⟨(pK BK280)⟩, ⟨pB⟩⟩
      · rw [if_neg c12] at H
        have c12b0 : (a0_0 == 4) = false := beq_eq_false_iff_ne.mpr c12
        have c12b1 : (a0_0 != 4) = true := bne_iff_ne.mpr c12
        (first | rw [c12b0] | (simp only [i64_w, i32_w]; rw [c12b0]) | skip)
        by_cases c16 : a0_2.toList = ([] : List UInt8)
        · rw [if_pos c16] at H
          have c16b0 : (a0_2.toList == ([] : List UInt8)) = true := beq_iff_eq.mpr c16
          have c16b1 : (a0_2.toList != ([] : List UInt8)) = false := bne_eq_false_iff_eq.mpr c16
          clear c16
          by_cases c17 : a0_0 = 1
          · rw [if_pos c17] at H
            have c17b0 : (a0_0 == 1) = true := beq_iff_eq.mpr c17
            have c17b1 : (a0_0 != 1) = false := bne_eq_false_iff_eq.mpr c17
            clear c17
            have H' := am H
            clear H
            obtain ⟨hcz18_0, hcz18_1, hcz18_2, hfz18_0, hfz18_1, hfz18_2⟩ := bx3 BK280
            go_wp2_with (first | ((with_reducible refine gC (f := 39) rfl ?_); refine goesL_ (some 16) rfl rfl Tryd.func39 (by kernel_rfl) rfl #[.int .i64 a0_0, .int .i64 1, .int .i64 6] rfl pA ?_; (with_reducible refine (impl_in.calls a0_0 1 6 true _ A10.out).mono ?_); rintro e w' ⟨rfl, ⟨nd, rfl⟩⟩; refine ⟨_, rfl, ?_⟩))
            go_meet
            case rel => exact ⟨_, ((a0_1 != 0)), pF, H', ⟨by have := HJ1.out; first | omega | exact Nat.le_refl _⟩, ⟨(pK BK280)⟩, ⟨pB⟩⟩
          · rw [if_neg c17] at H
            have c17b0 : (a0_0 == 1) = false := beq_eq_false_iff_ne.mpr c17
            have c17b1 : (a0_0 != 1) = true := bne_iff_ne.mpr c17
            have H' := am H
            clear H
            obtain ⟨hcz19_0, hcz19_1, hcz19_2, hfz19_0, hfz19_1, hfz19_2⟩ := bx3 BK280
            go_wp2_with (first | ((with_reducible refine gC (f := 39) rfl ?_); refine goesL_ (some 16) rfl rfl Tryd.func39 (by kernel_rfl) rfl #[.int .i64 a0_0, .int .i64 1, .int .i64 6] rfl pA ?_; (with_reducible refine (impl_in.calls a0_0 1 6 true _ A10.out).mono ?_); rintro e w' ⟨rfl, ⟨nd, rfl⟩⟩; refine ⟨_, rfl, ?_⟩))
            go_meet
            case rel => exact ⟨_, (false), pF, H', ⟨by have := HJ1.out; first | omega | exact Nat.le_refl _⟩, ⟨(pK BK280)⟩, ⟨pB⟩⟩
        · rw [if_neg c16] at H
          have c16b0 : (a0_2.toList == ([] : List UInt8)) = false := beq_eq_false_iff_ne.mpr c16
          have c16b1 : (a0_2.toList != ([] : List UInt8)) = true := bne_iff_ne.mpr c16
          have H' := am H
          clear H
          obtain ⟨hcz20_0, hcz20_1, hcz20_2, hfz20_0, hfz20_1, hfz20_2⟩ := bx3 BK280
          go_wp2_with (first | ((with_reducible refine gC (f := 39) rfl ?_); refine goesL_ (some 16) rfl rfl Tryd.func39 (by kernel_rfl) rfl #[.int .i64 a0_0, .int .i64 1, .int .i64 6] rfl pA ?_; (with_reducible refine (impl_in.calls a0_0 1 6 true _ A10.out).mono ?_); rintro e w' ⟨rfl, ⟨nd, rfl⟩⟩; refine ⟨_, rfl, ?_⟩))
          go_meet
          case rel => exact ⟨_, (true), pF, H', ⟨by have := HJ1.out; first | omega | exact Nat.le_refl _⟩, ⟨(pK BK280)⟩, ⟨pB⟩⟩
    · replace c11 := Bool.eq_false_iff.mpr c11
      subst c11
      have H1 : (impl_valFault.j1 kj1 x3_1 true a0_0 a0_1 a0_2) = some r := by rw [if_neg (show ¬ (false = true) by decide)] at H; exact H
      clear H; have H := H1; clear H1
      have H' := am H
      clear H
      obtain ⟨hcz21_0, hcz21_1, hcz21_2, hfz21_0, hfz21_1, hfz21_2⟩ := bx3 BK280
      go_wp2_with (first | ((with_reducible refine gC (f := 39) rfl ?_); refine goesL_ (some 16) rfl rfl Tryd.func39 (by kernel_rfl) rfl #[.int .i64 a0_0, .int .i64 1, .int .i64 6] rfl pA ?_; (with_reducible refine (impl_in.calls a0_0 1 6 false _ A10.out).mono ?_); rintro e w' ⟨rfl, ⟨nd, rfl⟩⟩; refine ⟨_, rfl, ?_⟩))
      go_meet
      case rel => exact ⟨_, (true), pF, H', ⟨by have := HJ1.out; first | omega | exact Nat.le_refl _⟩, ⟨(pK BK280)⟩, ⟨pB⟩⟩
   case rest =>
    clear HC9; (try clear hcz4_0); (try clear hcz4_1); (try clear hcz4_2); (try clear hfz4_0); (try clear hfz4_1); (try clear hfz4_2)
    obtain ⟨kq, x13_8, rfl, HA, HJ8, BK280, HB⟩ := hcut
    cases kq with
    | zero => exact absurd HA.out (by simp [impl_valFault.j1])
    | succ kj8 =>
     have H := HA.out
     clear HA
     simp only [impl_valFault.j1] at H
     by_cases c22 : x13_8 = true
     · subst c22
       have H1 : (some 1) = some r := by rw [if_pos rfl] at H; exact H
       clear H; have H := H1; clear H1
       obtain rfl := sj H
       go_wp2
       go_ret
       exact ⟨pE, pB⟩
     · replace c22 := Bool.eq_false_iff.mpr c22
       subst c22
       have H1 : ((impl_in.f a0_1 0 x3_1).bind fun t282 => (if t282 = true then ((impl_textOk.f kj8 a0_2).bind fun t283 => (if t283 = true then (some 0) else (some 5))) else (some 3))) = some r := by rw [if_neg (show ¬ (false = true) by decide)] at H; exact H
       clear H; have H := H1; clear H1
       obtain ⟨t282, A230, H⟩ := bO H
       replace H : (if t282 = true then ((impl_textOk.f kj8 a0_2).bind fun t283 => (if t283 = true then (some 0) else (some 5))) else (some 3)) = some r := H
       have A23 := am A230; clear A230
       by_cases c24 : t282 = true
       · subst c24
         have H1 : ((impl_textOk.f kj8 a0_2).bind fun t283 => (if t283 = true then (some 0) else (some 5))) = some r := by rw [if_pos rfl] at H; exact H
         clear H; have H := H1; clear H1
         obtain ⟨t283, A250, H⟩ := bO H
         replace H : (if t283 = true then (some 0) else (some 5)) = some r := H
         have A25 := am A250; clear A250
         by_cases c26 : t283 = true
         · subst c26
           have H1 : (some 0) = some r := by rw [if_pos rfl] at H; exact H
           clear H; have H := H1; clear H1
           obtain rfl := sj H
           obtain ⟨hcz27_0, hcz27_1, hcz27_2, hfz27_0, hfz27_1, hfz27_2⟩ := bx3 BK280
           go_wp2_with (first | ((with_reducible refine gC (f := 39) rfl ?_); refine goesL_ (some 47) rfl rfl Tryd.func39 (by kernel_rfl) rfl #[.int .i64 a0_1, .int .i64 0, .int .i64 x3_1] rfl pA ?_; (with_reducible refine (impl_in.calls a0_1 0 x3_1 true _ A23.out).mono ?_); rintro e w' ⟨rfl, ⟨nd, rfl⟩⟩; refine ⟨_, rfl, ?_⟩) | ((with_reducible refine gC (f := 90) rfl ?_); refine goesL_ (some 52) rfl rfl Tryd.func90 (by kernel_rfl) rfl #[.string a0_2] rfl pA ?_; (with_reducible refine (impl_textOk.calls kj8 a0_2 true _ A25.out).mono ?_); rintro e w' ⟨rfl, ⟨nd, rfl⟩⟩; refine ⟨_, rfl, ?_⟩))
           go_ret
           exact ⟨pE, pB⟩
         · replace c26 := Bool.eq_false_iff.mpr c26
           subst c26
           have H1 : (some 5) = some r := by rw [if_neg (show ¬ (false = true) by decide)] at H; exact H
           clear H; have H := H1; clear H1
           obtain rfl := sj H
           obtain ⟨hcz28_0, hcz28_1, hcz28_2, hfz28_0, hfz28_1, hfz28_2⟩ := bx3 BK280
           go_wp2_with (first | ((with_reducible refine gC (f := 39) rfl ?_); refine goesL_ (some 47) rfl rfl Tryd.func39 (by kernel_rfl) rfl #[.int .i64 a0_1, .int .i64 0, .int .i64 x3_1] rfl pA ?_; (with_reducible refine (impl_in.calls a0_1 0 x3_1 true _ A23.out).mono ?_); rintro e w' ⟨rfl, ⟨nd, rfl⟩⟩; refine ⟨_, rfl, ?_⟩) | ((with_reducible refine gC (f := 90) rfl ?_); refine goesL_ (some 52) rfl rfl Tryd.func90 (by kernel_rfl) rfl #[.string a0_2] rfl pA ?_; (with_reducible refine (impl_textOk.calls kj8 a0_2 false _ A25.out).mono ?_); rintro e w' ⟨rfl, ⟨nd, rfl⟩⟩; refine ⟨_, rfl, ?_⟩))
           go_ret
           exact ⟨pE, pB⟩
       · replace c24 := Bool.eq_false_iff.mpr c24
         subst c24
         have H1 : (some 3) = some r := by rw [if_neg (show ¬ (false = true) by decide)] at H; exact H
         clear H; have H := H1; clear H1
         obtain rfl := sj H
         obtain ⟨hcz29_0, hcz29_1, hcz29_2, hfz29_0, hfz29_1, hfz29_2⟩ := bx3 BK280
         go_wp2_with (first | ((with_reducible refine gC (f := 39) rfl ?_); refine goesL_ (some 47) rfl rfl Tryd.func39 (by kernel_rfl) rfl #[.int .i64 a0_1, .int .i64 0, .int .i64 x3_1] rfl pA ?_; (with_reducible refine (impl_in.calls a0_1 0 x3_1 false _ A23.out).mono ?_); rintro e w' ⟨rfl, ⟨nd, rfl⟩⟩; refine ⟨_, rfl, ?_⟩))
         go_ret
         exact ⟨pE, pB⟩
/-- A state of type 98 at block g of W; what its slices lead to came in by w0. -/
def IsS98 (w0 W : World) (g : Nat) (f0 : List (S81)) (f1 : Bool) (f2 : Bool) (f3 : Bool) : Prop := ∃ A0 c0, W.heap[g]? = some (.cells #[.slice A0 f0.length c0, .bool f1, .bool f2, .bool f3] 98 (0, 0)) ∧ w0.heap.size ≤ g ∧ Kd.C k81 w0 A0 f0.length f0
theorem IsS98.grown {w0 W : World} {g : Nat} {f0 : List (S81)} {f1 : Bool} {f2 : Bool} {f3 : Bool} {W1 : World} {row : Option Nat} (h : IsS98 w0 W g f0 f1 f2 f3) (hw : W.grownBy W1 row) (hne : some g ≠ row) : IsS98 w0 W1 g f0 f1 f2 f3 := by
 obtain ⟨A0, c0, hb, hg, hr0⟩ := h
 exact ⟨A0, c0, blk_grown hb hw hne, hg, hr0⟩
theorem IsS98.own_neN {w0 W : World} {g : Nat} {f0 : List (S81)} {f1 : Bool} {f2 : Bool} {f3 : Bool} {α : Type} {d : Kd α} {e : Nat} {base : Nat} {ok : Nat → Prop} {v : Value} {xs : List α} (h : IsS98 w0 W g f0 f1 f2 f3) (ho : Kd.N d e W base ok v xs) (ht : e ≠ 98) : some g ≠ v.ownBlock := by
 obtain ⟨A0, c0, hb, hg, hr0⟩ := h
 exact Kd.N_ne ho hb ht
theorem IsS98.fresh {w0 W : World} {g : Nat} {f0 : List (S81)} {f1 : Bool} {f2 : Bool} {f3 : Bool} (h : IsS98 w0 W g f0 f1 f2 f3) : ∀ k, W.heap.size ≤ k → k ≠ g := by
 obtain ⟨A0, c0, hb, hg, hr0⟩ := h
 exact Kd.freshB hb
theorem IsS98.kept {w0 W : World} {g : Nat} {f0 : List (S81)} {f1 : Bool} {f2 : Bool} {f3 : Bool} {W1 : World} {S : Nat → Prop} (h : IsS98 w0 W g f0 f1 f2 f3) (hk : Kept W W1 S) (hne : ¬ S g) : IsS98 w0 W1 g f0 f1 f2 f3 := by
 obtain ⟨A0, c0, hb, hg, hr0⟩ := h
 exact ⟨A0, c0, blk_kept hb hk hne, hg, hr0⟩
theorem IsS98.below {w0 W : World} {g : Nat} {f0 : List (S81)} {f1 : Bool} {f2 : Bool} {f3 : Bool} {W1 : World} (h : IsS98 w0 W g f0 f1 f2 f3) (hw : Below W.heap.size W W1) : IsS98 w0 W1 g f0 f1 f2 f3 := h.grown (grown_of_below hw none) (by simp)
theorem IsS98.alloc {w0 W : World} {g : Nat} {f0 : List (S81)} {f1 : Bool} {f2 : Bool} {f3 : Bool} (h : IsS98 w0 W g f0 f1 f2 f3) (o : Obj) : IsS98 w0 (W.alloc o) g f0 f1 f2 f3 := h.below (below_alloc (Below.refl _ _) o)
theorem IsS98.drewN {w0 W : World} {g : Nat} {f0 : List (S81)} {f1 : Bool} {f2 : Bool} {f3 : Bool} (h : IsS98 w0 W g f0 f1 f2 f3) (m : Nat) : IsS98 w0 (W.drewN m) g f0 f1 f2 f3 := h
theorem IsS98.drew {w0 W : World} {g : Nat} {f0 : List (S81)} {f1 : Bool} {f2 : Bool} {f3 : Bool} (h : IsS98 w0 W g f0 f1 f2 f3) : IsS98 w0 W.drew g f0 f1 f2 f3 := h
theorem IsS98.at_ {w0 W : World} {g : Nat} {f0 : List (S81)} {f1 : Bool} {f2 : Bool} {f3 : Bool} {w' : World} {m : Nat} (hq : W.drewN m = w') (h : IsS98 w0 W g f0 f1 f2 f3) : IsS98 w0 w' g f0 f1 f2 f3 := by subst hq; exact IsS98.drewN h m
theorem IsS98.apart {w0 W : World} {g : Nat} {f0 : List (S81)} {f1 : Bool} {f2 : Bool} {f3 : Bool} {α : Type} {d : Kd α} {e : Nat} {base : Nat} {ok : Nat → Prop} {v : Value} {xs : List α} (h : IsS98 w0 W g f0 f1 f2 f3) (ho : d.R e W base ok v xs) (ht : ∀ q, q ∈ e :: d.E → q ≠ 98) : d.R e W base (fun k => ok k ∧ k ≠ g) v xs := by
 obtain ⟨A0, c0, hb, hg, hr0⟩ := h
 exact Kd.R_types ho hb ht
theorem IsS98.own_ne {w0 W : World} {g : Nat} {f0 : List (S81)} {f1 : Bool} {f2 : Bool} {f3 : Bool} {α : Type} {d : Kd α} {e : Nat} {base : Nat} {ok : Nat → Prop} {v : Value} {xs : List α} (h : IsS98 w0 W g f0 f1 f2 f3) (ho : d.R e W base ok v xs) (ht : e ≠ 98) : some g ≠ v.ownBlock := by
 obtain ⟨A0, c0, hb, hg, hr0⟩ := h
 exact Kd.R_ne ho hb ht
theorem IsS98.apartQ {w0 W : World} {g : Nat} {f0 : List (S81)} {f1 : Bool} {f2 : Bool} {f3 : Bool} {α : Type} {d : Kd α} {e : Nat} {base : Nat} {ok : Nat → Prop} {v : Value} {xs : List α} (h : IsS98 w0 W g f0 f1 f2 f3) (ho : d.Q e W base ok v xs) (ht : ∀ q, q ∈ e :: d.E → q ≠ 98) : d.Q e W base (fun k => ok k ∧ k ≠ g) v xs := by
 obtain ⟨A0, c0, hb, hg, hr0⟩ := h
 exact Kd.Q_types ho hb ht
theorem IsS98.own_neQ {w0 W : World} {g : Nat} {f0 : List (S81)} {f1 : Bool} {f2 : Bool} {f3 : Bool} {α : Type} {d : Kd α} {e : Nat} {base : Nat} {ok : Nat → Prop} {v : Value} {xs : List α} (h : IsS98 w0 W g f0 f1 f2 f3) (ho : d.Q e W base ok v xs) (ht : e ≠ 98) : some g ≠ v.ownBlock := by
 obtain ⟨A0, c0, hb, hg, hr0⟩ := h
 exact Kd.Q_ne ho hb ht
theorem IsS98.apartS {w0 W : World} {g : Nat} {f0 : List (S81)} {f1 : Bool} {f2 : Bool} {f3 : Bool} {α : Type} {d : Kd α} {e : Nat} {base : Nat} {ok : Nat → Prop} {v : Value} {xs : List α} (h : IsS98 w0 W g f0 f1 f2 f3) (ho : d.S e W base ok v xs) (ht : ∀ q, q ∈ e :: d.E → q ≠ 98) : d.S e W base (fun k => ok k ∧ k ≠ g) v xs := by
 obtain ⟨A0, c0, hb, hg, hr0⟩ := h
 exact Kd.S_types ho hb ht
theorem IsS98.own_neS {w0 W : World} {g : Nat} {f0 : List (S81)} {f1 : Bool} {f2 : Bool} {f3 : Bool} {α : Type} {d : Kd α} {e : Nat} {base : Nat} {ok : Nat → Prop} {v : Value} {xs : List α} (h : IsS98 w0 W g f0 f1 f2 f3) (ho : d.S e W base ok v xs) (ht : e ≠ 98) : some g ≠ v.ownBlock := by
 obtain ⟨A0, c0, hb, hg, hr0⟩ := h
 exact Kd.S_ne ho hb ht
theorem IsS98.lt {w0 W : World} {g : Nat} {f0 : List (S81)} {f1 : Bool} {f2 : Bool} {f3 : Bool} (h : IsS98 w0 W g f0 f1 f2 f3) : g < W.heap.size := by
 obtain ⟨A0, c0, hb, hg, hr0⟩ := h
 exact blk_lt hb
theorem IsS98.ge {w0 W : World} {g : Nat} {f0 : List (S81)} {f1 : Bool} {f2 : Bool} {f3 : Bool} (h : IsS98 w0 W g f0 f1 f2 f3) : w0.heap.size ≤ g := by
 obtain ⟨A0, c0, hb, hg, hr0⟩ := h
 exact hg
theorem IsS98.ne_blk {w0 W : World} {g : Nat} {f0 : List (S81)} {f1 : Bool} {f2 : Bool} {f3 : Bool} {a : Nat} {cs : Array Value} {t : TypeId} {fr : Nat × Nat} (h : IsS98 w0 W g f0 f1 f2 f3) (hb2 : W.heap[a]? = some (.cells cs t fr)) (ht : t ≠ 98) : g ≠ a := by
 obtain ⟨A0, c0, hb, hg, hr0⟩ := h
 rintro rfl
 rw [hb] at hb2
 injection hb2 with hb2
 injection hb2 with _ ht2
 exact ht ht2.symm
theorem IsS98.far {w0 W : World} {g : Nat} {f0 : List (S81)} {f1 : Bool} {f2 : Bool} {f3 : Bool} {p : Addr} (h : IsS98 w0 W g f0 f1 f2 f3) (hne : g ≠ p.block) (u : Value) : IsS98 w0 (W.setCell p u) g f0 f1 f2 f3 := by
 obtain ⟨A0, c0, hb, hg, hr0⟩ := h
 exact ⟨A0, c0, blk_far hb hne u, hg, hr0⟩
theorem cellS98_0 {W : World} {g : Nat} {A0 : Option Addr} {c0 : Nat} {f0 : List (S81)} {f1 : Bool} {f2 : Bool} {f3 : Bool} (h : W.heap[g]? = some (.cells #[.slice A0 f0.length c0, .bool f1, .bool f2, .bool f3] 98 (0, 0))) : W.cell? ⟨g, 0, none⟩ = some (.slice A0 f0.length c0) := (blk_cell h 0).trans rfl
theorem cellS98_1 {W : World} {g : Nat} {A0 : Option Addr} {c0 : Nat} {f0 : List (S81)} {f1 : Bool} {f2 : Bool} {f3 : Bool} (h : W.heap[g]? = some (.cells #[.slice A0 f0.length c0, .bool f1, .bool f2, .bool f3] 98 (0, 0))) : W.cell? ⟨g, 1, none⟩ = some (.bool f1) := (blk_cell h 1).trans rfl
theorem IsS98.set_1 {w0 W : World} {g : Nat} {f0 : List (S81)} {f1 : Bool} {f2 : Bool} {f3 : Bool} (h : IsS98 w0 W g f0 f1 f2 f3) (x : Bool) : IsS98 w0 (W.setCell ⟨g, 1, none⟩ (.bool x)) g f0 x f2 f3 := by
 obtain ⟨A0, c0, hb, hg, hr0⟩ := h
 exact ⟨A0, c0, by simpa using blk_set hb 1 (.bool x), hg, hr0⟩
theorem cellS98_2 {W : World} {g : Nat} {A0 : Option Addr} {c0 : Nat} {f0 : List (S81)} {f1 : Bool} {f2 : Bool} {f3 : Bool} (h : W.heap[g]? = some (.cells #[.slice A0 f0.length c0, .bool f1, .bool f2, .bool f3] 98 (0, 0))) : W.cell? ⟨g, 2, none⟩ = some (.bool f2) := (blk_cell h 2).trans rfl
theorem IsS98.set_2 {w0 W : World} {g : Nat} {f0 : List (S81)} {f1 : Bool} {f2 : Bool} {f3 : Bool} (h : IsS98 w0 W g f0 f1 f2 f3) (x : Bool) : IsS98 w0 (W.setCell ⟨g, 2, none⟩ (.bool x)) g f0 f1 x f3 := by
 obtain ⟨A0, c0, hb, hg, hr0⟩ := h
 exact ⟨A0, c0, by simpa using blk_set hb 2 (.bool x), hg, hr0⟩
theorem cellS98_3 {W : World} {g : Nat} {A0 : Option Addr} {c0 : Nat} {f0 : List (S81)} {f1 : Bool} {f2 : Bool} {f3 : Bool} (h : W.heap[g]? = some (.cells #[.slice A0 f0.length c0, .bool f1, .bool f2, .bool f3] 98 (0, 0))) : W.cell? ⟨g, 3, none⟩ = some (.bool f3) := (blk_cell h 3).trans rfl
theorem IsS98.set_3 {w0 W : World} {g : Nat} {f0 : List (S81)} {f1 : Bool} {f2 : Bool} {f3 : Bool} (h : IsS98 w0 W g f0 f1 f2 f3) (x : Bool) : IsS98 w0 (W.setCell ⟨g, 3, none⟩ (.bool x)) g f0 f1 f2 x := by
 obtain ⟨A0, c0, hb, hg, hr0⟩ := h
 exact ⟨A0, c0, by simpa using blk_set hb 3 (.bool x), hg, hr0⟩
theorem IsS98.new (w0 W : World) (A0 : Option Addr) (c0 : Nat) (f0 : List (S81)) (f1 : Bool) (f2 : Bool) (f3 : Bool) (hB : Below w0.heap.size w0 W) (hr0 : Kd.C k81 w0 A0 f0.length f0) : IsS98 w0 (W.alloc (.cells #[.slice A0 f0.length c0, .bool f1, .bool f2, .bool f3] 98)) W.heap.size f0 f1 f2 f3 := ⟨A0, c0, by simpa using heap_alloc_new W _, hB.size, hr0⟩
mutual
/-- What (*structure).value answers: the place behind, and the three marks. -/
def valueV : Nat → List S81 → Bool → Bool → Bool → Int → Int → Option (Int × Bool × Bool × Bool)
 | 0, _, _, _, _, _, _ => none
 | k + 1, l, f, t, n, at_, d =>
  if 0 ≤ at_ ∧ at_ ≤ l.length ∧ 0 ≤ d ∧ d ≤ 1000000 ∧ l.length ≤ 1000000 then
   if f = true ∨ (l.length : Int) ≤ at_ then some (at_, true, t, n)
   else if (rd_T81 l at_).f0 = 5 ∨ (rd_T81 l at_).f0 = 6 then valueL k l (rd_T81 l at_) false t (n || decide (4 < d)) (at_ + 1) d [] 0
   else some (at_ + 1, false, t, n || decide (4 < d))
  else none
def valueL : Nat → List S81 → S81 → Bool → Bool → Bool → Int → Int → List ByteArray → Int → Option (Int × Bool × Bool × Bool)
 | 0, _, _, _, _, _, _, _, _, _ => none
 | k + 1, l, x, f, t, n, at_, d, names, i =>
  if 0 ≤ i ∧ i ≤ 1000000 ∧ names.length ≤ 1000000 then
   if i < x.f1 then
    if x.f0 = 6 then
     if 0 ≤ at_ ∧ at_ ≤ l.length then
      if f = true ∨ (l.length : Int) ≤ at_ then some (at_, true, t, n)
      else if (rd_T81 l at_).f0 = 4 then
       (valueV k l false (t || names.any fun y => y.data.toList == (rd_T81 l at_).f2.data.toList) (n || decide (4 < d + 1)) (at_ + 1) (d + 1)).bind fun r => valueL k l x r.2.1 r.2.2.1 r.2.2.2 r.1 d ((rd_T81 l at_).f2 :: names) (i + 1)
      else some (at_, true, t, n)
     else none
    else (valueV k l f t n at_ (d + 1)).bind fun r => valueL k l x r.2.1 r.2.2.1 r.2.2.2 r.1 d names (i + 1)
   else some (at_, f, t, n)
  else none
end
open Go.Proofs.YthjlbpgiaehjnaaDoor.HNames in
/-- What holds in a round of the loop. -/
structure InvV (w0 w W : World) (g gv B : Nat) (A : Option Addr) (c : Nat) (l : List S81) (x : S81) (f t n : Bool) (names : List ByteArray) : Prop where
 bs : W.heap[g]? = some (.cells #[.slice A l.length c, .bool f, .bool t, .bool n] 98 (0, 0))
 nm : NamesAt W B names
 bx : W.heap[gv]? = some (.cells #[.int .i64 x.f0, .int .i64 x.f1, .string x.f2] 81 (0, 0))
 bl : Below w0.heap.size w0 W
 kp : KeepBut w W g none
 gw : w0.heap.size ≤ g
 nb : B ≠ g
 nv : gv ≠ g
 vb : gv ≠ B
 hB : w.heap.size ≤ B
 hw : w0.heap.size ≤ w.heap.size
 rd : Kd.C k81 w0 A l.length l
theorem InvV.set1 {w0 w W : World} {g gv B : Nat} {A : Option Addr} {c : Nat} {l : List S81} {x : S81} {f t n : Bool} {names : List ByteArray} (h : InvV w0 w W g gv B A c l x f t n names) (b : Bool) : InvV w0 w (W.setCell ⟨g, 1, none⟩ (.bool b)) g gv B A c l x b t n names :=
 ⟨blk_put h.bs 1 _ rfl, h.nm.heap (Below.heap_setCell W ⟨g, 1, none⟩ _ B h.nb), blk_far h.bx h.nv _, below_set h.bl h.gw, h.kp.set_ 1 _, h.gw, h.nb, h.nv, h.vb, h.hB, h.hw, h.rd⟩
theorem InvV.set2 {w0 w W : World} {g gv B : Nat} {A : Option Addr} {c : Nat} {l : List S81} {x : S81} {f t n : Bool} {names : List ByteArray} (h : InvV w0 w W g gv B A c l x f t n names) (b : Bool) : InvV w0 w (W.setCell ⟨g, 2, none⟩ (.bool b)) g gv B A c l x f b n names :=
 ⟨blk_put h.bs 2 _ rfl, h.nm.heap (Below.heap_setCell W ⟨g, 2, none⟩ _ B h.nb), blk_far h.bx h.nv _, below_set h.bl h.gw, h.kp.set_ 2 _, h.gw, h.nb, h.nv, h.vb, h.hB, h.hw, h.rd⟩
theorem InvV.set3 {w0 w W : World} {g gv B : Nat} {A : Option Addr} {c : Nat} {l : List S81} {x : S81} {f t n : Bool} {names : List ByteArray} (h : InvV w0 w W g gv B A c l x f t n names) (b : Bool) : InvV w0 w (W.setCell ⟨g, 3, none⟩ (.bool b)) g gv B A c l x f t b names :=
 ⟨blk_put h.bs 3 _ rfl, h.nm.heap (Below.heap_setCell W ⟨g, 3, none⟩ _ B h.nb), blk_far h.bx h.nv _, below_set h.bl h.gw, h.kp.set_ 3 _, h.gw, h.nb, h.nv, h.vb, h.hB, h.hw, h.rd⟩
theorem InvV.put {w0 w W W' : World} {g gv B : Nat} {A : Option Addr} {c : Nat} {l : List S81} {x : S81} {f t n : Bool} {names names' : List ByteArray} (h : InvV w0 w W g gv B A c l x f t n names) (hn : Go.Proofs.YthjlbpgiaehjnaaDoor.HNames.NamesAt W' B names') (hg : W.grownBy W' (some B)) : InvV w0 w W' g gv B A c l x f t n names' :=
 ⟨blk_grown h.bs hg (fun e => h.nb (sj e).symm), hn, blk_grown h.bx hg (fun e => h.vb (sj e)), h.bl.grown hg (Nat.le_trans h.hw h.kp.1) (fun k hk => by cases hk; exact Nat.le_trans h.hw h.hB), h.kp.trans (KeepBut.of_grown hg g) (.inr ⟨B, rfl, h.hB⟩), h.gw, h.nb, h.nv, h.vb, h.hB, h.hw, h.rd⟩
theorem InvV.call {w0 w W W' : World} {g gv B : Nat} {A A' : Option Addr} {c c' : Nat} {l : List S81} {x : S81} {f t n f' t' n' : Bool} {names : List ByteArray} (h : InvV w0 w W g gv B A c l x f t n names) (hs : W'.heap[g]? = some (.cells #[.slice A' l.length c', .bool f', .bool t', .bool n'] 98 (0, 0))) (hr : Kd.C k81 w0 A' l.length l) (hb : Below w0.heap.size w0 W') (hk : KeepBut W W' g none) : InvV w0 w W' g gv B A' c' l x f' t' n' names :=
 ⟨hs, h.nm.heap (hk.2 B h.nm.lt h.nb (by simp)), hk.blk h.bx h.nv (by simp), hb, h.kp.trans hk (.inl rfl), h.gw, h.nb, h.nv, h.vb, h.hB, h.hw, hr⟩
theorem InvV.st {w0 w W : World} {g gv B : Nat} {A : Option Addr} {c : Nat} {l : List S81} {x : S81} {f t n : Bool} {names : List ByteArray} (h : InvV w0 w W g gv B A c l x f t n names) : IsS98 w0 W g l f t n := ⟨A, c, h.bs, h.gw, h.rd⟩
theorem InvV.el {w0 w W : World} {g gv B : Nat} {A : Option Addr} {c : Nat} {l : List S81} {x : S81} {f t n : Bool} {names : List ByteArray} (h : InvV w0 w W g gv B A c l x f t n names) {a : Addr} {v : Value} (hx : w0.cell? a = some v) : W.cell? a = some v := (h.bl.cell (World.block_lt_of_cell? w0 a hx)).trans hx
set_option maxHeartbeats 4000000 in
set_option maxRecDepth 100000 in
theorem valueV_calls : ∀ (k g : Nat) (l : List S81) (f t n : Bool) (at_ d : Int) (r1 : Int) (r2 r3 r4 : Bool) (w0 w : World), (∀ x ∈ l, x.f2.size ≤ maxLen) → IsS98 w0 w g l f t n → Below w0.heap.size w0 w → valueV k l f t n at_ d = some (r1, r2, r3, r4) →
 Calls Tryd.prog 64 #[.pointer (some ⟨g, 0, none⟩), .int .i64 at_, .int .i64 d] w fun e w' => e = .returned (.int .i64 r1) ∧ IsS98 w0 w' g l r2 r3 r4 ∧ Below w0.heap.size w0 w' ∧ KeepBut w w' g none := by
 have hu134 := Tryd.underlying98
 have hu129 := Tryd.underlying81
 intro k
 induction k using Nat.strongRecOn with
 | _ k ih =>
  intro g l f t n at_ d r1 r2 r3 r4 w0 w hsz hI hB h
  cases k with
  | zero => simp [valueV] at h
  | succ k =>
   unfold valueV at h
   by_cases hG : 0 ≤ at_ ∧ at_ ≤ l.length ∧ 0 ≤ d ∧ d ≤ 1000000 ∧ l.length ≤ 1000000
   · rw [if_pos hG] at h
     obtain ⟨A, c, hb, hg, hr⟩ := hI
     have HR := am hr; have HBX := am hb; have HB := am hB; have HG := am hg; have HGG := am hG
     have hc0 : w.cell? ⟨g, 0, none⟩ = some (.slice A l.length c) := (blk_cell hb 0).trans rfl
     have hc1 : w.cell? ⟨g, 1, none⟩ = some (.bool f) := (blk_cell hb 1).trans rfl
     have hf1 := blk_frozen hb 1
     clear hr hb hB hg
     by_cases hE : f = true ∨ (l.length : Int) ≤ at_
     · rw [if_pos hE] at h
       simp only [Option.some.injEq, Prod.mk.injEq] at h
       obtain ⟨rfl, rfl, rfl, rfl⟩ := h
       cases f with
       | true =>
        clear hE
        go_enter Tryd.func64, Tryd.ntmps64
        go_wp2
        go_ret
        exact ⟨rfl, ⟨A, c, blk_put HBX.out 1 _ rfl, HG.out, HR.out⟩, below_set HB.out HG.out, (KeepBut.refl w g none).set_ 1 _⟩
       | false =>
        have hat : (l.length : Int) ≤ at_ := hE.resolve_left (by decide)
        have hatb : decide ((l.length : Int) ≤ at_) = true := dt hat
        clear hE
        go_enter Tryd.func64, Tryd.ntmps64
        go_wp2
        go_ret
        exact ⟨rfl, ⟨A, c, blk_put HBX.out 1 _ rfl, HG.out, HR.out⟩, below_set HB.out HG.out, (KeepBut.refl w g none).set_ 1 _⟩
     · rw [if_neg hE] at h
       have hfF : f = false := by cases f with | false => rfl | true => exact absurd (.inl rfl) hE
       subst hfF
       have hlt : at_ < (l.length : Int) := (Int.lt_or_le at_ l.length).resolve_right (fun h1 => hE (.inr h1))
       have hatb : decide ((l.length : Int) ≤ at_) = false := decide_eq_false (by omega)
       clear hE
       have h00 := HGG.out.1
       obtain ⟨ad, e, hx0, hx1, hx2⟩ := at_T81 HR.out at_ h00 hlt
       cases e
       obtain ⟨x, hxd⟩ : ∃ x, rd_T81 l at_ = x := ⟨_, rfl⟩
       rw [hxd] at h hx0 hx1 hx2
       have HXD := am hxd; clear hxd
       have hna : (ad.add (at_.toNat * 3)).block ≠ g := Nat.ne_of_lt (Nat.lt_of_lt_of_le (World.block_lt_of_cell? w0 _ hx0) HG.out)
       have hna' : ad.block ≠ g := by have := hna; rwa [add_block] at this
       have HX0 := am hx0; have HX1 := am hx1; have HX2 := am hx2
       clear hx0 hx1 hx2 hna hna'
       have hc3 : w.cell? ⟨g, 3, none⟩ = some (.bool n) := (blk_cell HBX.out 3).trans rfl
       have hf3 := blk_frozen HBX.out 3
       have p5 := eq_true h00
       have q5 := eq_true hlt
       have hmm := @run_makeMap Tryd.prog
       have hw1 : wrap64 (at_ + 1) = at_ + 1 := by have := HGG.out; unfold wrap64; omega
       go_enter Tryd.func64, Tryd.ntmps64
       go_upto_region 4 with fail
       go_cut [] (fun wc => wc = (w.setCell ⟨g, 1, none⟩ (.bool false)).setCell ⟨g, 3, none⟩ (.bool (n || decide (4 < d))))
       case first =>
        cases n with
        | true => go_wp2; go_meet; rfl
        | false => go_wp2; go_meet; rfl
       case rest =>
        have BSc := am (show wc.heap[g]? = some (.cells #[.slice (some ad) l.length c, .bool false, .bool t, .bool (n || decide (4 < d))] 98 (0, 0)) by rw [hcut]; exact blk_put (cs := #[.slice (some ad) l.length c, .bool false, .bool t, .bool n]) (blk_put HBX.out 1 _ rfl) 3 _ rfl)
        have BLc := am (show Below w0.heap.size w0 wc by rw [hcut]; exact below_set (below_set HB.out HG.out) HG.out)
        have KPc := am (show KeepBut w wc g none by rw [hcut]; exact ((KeepBut.refl w g none).set_ 1 _).set_ 3 _)
        clear hcut hc0 hc1 hf1 hc3 hf3
        have hc0 : wc.cell? ⟨g, 0, none⟩ = some (.slice (some ad) l.length c) := (blk_cell BSc.out 0).trans rfl
        have hx0 := (BLc.out.cell (World.block_lt_of_cell? w0 _ HX0.out)).trans HX0.out
        have hx1 := (BLc.out.cell (World.block_lt_of_cell? w0 _ HX1.out)).trans HX1.out
        have hx2 := (BLc.out.cell (World.block_lt_of_cell? w0 _ HX2.out)).trans HX2.out
        go_upto_region 7 with (first | ((with_reducible refine gate_dst (N := 7) rfl ?_); refine box_event ?hg (N := 7) ?hd (cs := #[.int .i64 0, .int .i64 0, .string ⟨#[]⟩]) (t := 81) ?hr ?_; (case hd => rfl); (case hg => rfl); (case hr => first | (go_simp; done) | (go_simp; rfl)); intro gv hgv w5 hbox hb; have HV5 := am hbox; have HB5 := am hb; have HGV := am hgv; have hz0 : w5.cell? ⟨gv, 0, none⟩ = some (.int .i64 0) := (blk_cell hbox 0).trans rfl; have hz1 : w5.cell? ⟨gv, 1, none⟩ = some (.int .i64 0) := (blk_cell hbox 1).trans rfl; have hz2 : w5.cell? ⟨gv, 2, none⟩ = some (.string ⟨#[]⟩) := (blk_cell hbox 2).trans rfl; have hzf0 := blk_frozen hbox 0; have hzf1 := blk_frozen hbox 1; have hzf2 := blk_frozen hbox 2; clear hbox hb hgv))
        have hgt : wc.heap.size < gv := by rw [HGV.out]; simp
        have hgw : g < wc.heap.size := blk_lt BSc.out
        have hnv : gv ≠ g := by omega
        have hnb : wc.heap.size ≠ g := by omega
        have hvb : wc.heap.size ≠ gv := by omega
        have hgw0 : w0.heap.size ≤ gv := Nat.le_trans HB.out.size (Nat.le_trans KPc.out.1 (Nat.le_of_lt hgt))
        have hN5 : Go.Proofs.YthjlbpgiaehjnaaDoor.HNames.NamesAt w5 wc.heap.size [] := (Go.Proofs.YthjlbpgiaehjnaaDoor.HNames.NamesAt.made wc).heap (HB5.out.block _ (by simp))
        have hB5g := blk_below (g := g) (blk_alloc BSc.out (.map #[] 0)) HB5.out
        have hL5 : Below w0.heap.size w0 w5 := bz_ (below_alloc BLc.out _) HB5.out
        have hK5 : KeepBut w w5 g none := (keep_alloc KPc.out _).trans (KeepBut.of_below HB5.out g none) (.inl rfl)
        have hwg : w.heap.size ≤ gv := Nat.le_trans KPc.out.1 (Nat.le_of_lt hgt)
        have HI := am (show InvV w0 w (((w5.setCell ⟨gv, 0, none⟩ (.int .i64 x.f0)).setCell ⟨gv, 1, none⟩ (.int .i64 x.f1)).setCell ⟨gv, 2, none⟩ (.string x.f2)) g gv wc.heap.size (some ad) c l x false t (n || decide (4 < d)) [] from
         ⟨blk_far (blk_far (blk_far hB5g hnv.symm _) hnv.symm _) hnv.symm _, ((hN5.heap (Below.heap_setCell _ ⟨gv, 0, none⟩ _ _ hvb)).heap (Below.heap_setCell _ ⟨gv, 1, none⟩ _ _ hvb)).heap (Below.heap_setCell _ ⟨gv, 2, none⟩ _ _ hvb), blk_put (cs := #[.int .i64 x.f0, .int .i64 x.f1, .string ⟨#[]⟩]) (blk_put (cs := #[.int .i64 x.f0, .int .i64 0, .string ⟨#[]⟩]) (blk_put HV5.out 0 _ rfl) 1 _ rfl) 2 _ rfl, below_set (below_set (below_set hL5 hgw0) hgw0) hgw0, keep_far (keep_far (keep_far hK5 hwg _) hwg _) hwg _, HG.out, hnb, hnv, hvb.symm, KPc.out.1, HB.out.size, HR.out⟩)
        clear hgt hgw hnv hnb hvb hgw0 hN5 hB5g hL5 hK5 hwg
        generalize wc.heap.size = Bm at HI ⊢
        go_cut [58] (fun v58 wd => ∃ b, v58 = .bool b ∧ Aside0 (b = decide (¬ (x.f0 = 5 ∨ x.f0 = 6))) ∧ Aside0 (InvV w0 w wd g gv Bm (some ad) c l x false t (n || decide (4 < d)) []))
        case first =>
         by_cases k5 : x.f0 = 5
         · have k5b : (x.f0 != 5) = false := bne_eq_false_iff_eq.2 k5
           have k5c : (x.f0 == 5) = true := beq_iff_eq.2 k5
           have e : decide (¬ (x.f0 = 5 ∨ x.f0 = 6)) = false := decide_eq_false (by simp [k5])
           clear k5
           go_wp2
           go_meet
           exact ⟨false, rfl, ⟨e.symm⟩, HI⟩
         · have k5b : (x.f0 != 5) = true := bne_iff_ne.2 k5
           have k5c : (x.f0 == 5) = false := beq_eq_false_iff_ne.2 k5
           by_cases k6 : x.f0 = 6
           · have k6b : (x.f0 != 6) = false := bne_eq_false_iff_eq.2 k6
             have k6c : (x.f0 == 6) = true := beq_iff_eq.2 k6
             have e : decide (¬ (x.f0 = 5 ∨ x.f0 = 6)) = false := decide_eq_false (by simp [k6])
             clear k5 k6
             go_wp2
             go_meet
             exact ⟨false, rfl, ⟨e.symm⟩, HI⟩
           · have k6b : (x.f0 != 6) = true := bne_iff_ne.2 k6
             have k6c : (x.f0 == 6) = false := beq_eq_false_iff_ne.2 k6
             have e : decide (¬ (x.f0 = 5 ∨ x.f0 = 6)) = true := dt (by simp [k5, k6])
             clear k5 k6
             go_wp2
             go_meet
             exact ⟨true, rfl, ⟨e.symm⟩, HI⟩
        case rest =>
         clear HI
         obtain ⟨b, rfl, hb, HI⟩ := hcut
         by_cases hk : x.f0 = 5 ∨ x.f0 = 6
         · rw [if_pos hk] at h
           have hb' := hb.out
           rw [decide_eq_false (fun h_ => h_ hk)] at hb'
           subst hb'
           have HEV := am h; have HK := am hk; clear h hb hk
           have hq1 : wc.cell? ⟨gv, 1, none⟩ = some (.int .i64 x.f1) := (blk_cell HI.out.bx 1).trans rfl
           go_wp2
           go_loopg [1, 62] k (fun kq v1 v62 w' => ∃ (a i : Int) (f' t' n' : Bool) (names : List ByteArray) (A' : Option Addr) (c' : Nat), v1 = .int .i64 a ∧ v62 = .int .i64 i ∧ Aside0 (valueL kq l x f' t' n' a d names i = some (r1, r2, r3, r4)) ∧ Aside0 (kq ≤ k) ∧ Aside0 (InvV w0 w w' g gv Bm A' c' l x f' t' n' names))
           case atStart => exact ⟨at_ + 1, 0, false, t, _, [], _, _, (by first | rfl | (simp [hw1]; done)), rfl, HEV, ⟨Nat.le_refl _⟩, HI⟩
           case round =>
            clear HI HEV
            obtain ⟨a, i, f', t', n', names, A', c', rfl, rfl, HA, HK1, HI⟩ := hrel
            cases gk with
            | zero => exact absurd HA.out (by simp [valueL])
            | succ k1 =>
             have h := HA.out
             clear HA
             unfold valueL at h
             by_cases hG2 : 0 ≤ i ∧ i ≤ 1000000 ∧ names.length ≤ 1000000
             · rw [if_pos hG2] at h
               have HG2 := am hG2; clear hG2
               have hq0 : wr.cell? ⟨gv, 0, none⟩ = some (.int .i64 x.f0) := (blk_cell HI.out.bx 0).trans rfl
               have hwi : wrap64 (i + 1) = i + 1 := by have := HG2.out; unfold wrap64; omega
               have hwd : wrap64 (d + 1) = d + 1 := by have := HGG.out; unfold wrap64; omega
               by_cases hi : i < x.f1
               · rw [if_pos hi] at h
                 have hib : decide (i < x.f1) = true := dt hi
                 by_cases h6 : x.f0 = 6
                 · rw [if_pos h6] at h
                   have h6b : (x.f0 == 6) = true := beq_iff_eq.2 h6
                   clear h6 hi
                   by_cases hG3 : 0 ≤ a ∧ a ≤ l.length
                   · rw [if_pos hG3] at h
                     have HG3 := am hG3; clear hG3
                     have hc0 : wr.cell? ⟨g, 0, none⟩ = some (.slice A' l.length c') := (blk_cell HI.out.bs 0).trans rfl
                     have hc1 : wr.cell? ⟨g, 1, none⟩ = some (.bool f') := (blk_cell HI.out.bs 1).trans rfl
                     have hf1 := blk_frozen HI.out.bs 1
                     by_cases hE2 : f' = true ∨ (l.length : Int) ≤ a
                     · rw [if_pos hE2] at h
                       simp only [Option.some.injEq, Prod.mk.injEq] at h
                       obtain ⟨rfl, rfl, rfl, rfl⟩ := h
                       cases f' with
                       | true =>
                        clear hE2
                        go_wp2
                        go_ret
                        exact ⟨rfl, (HI.out.set1 true).st, (HI.out.set1 true).bl, (HI.out.set1 true).kp⟩
                       | false =>
                        have hatb2 : decide ((l.length : Int) ≤ a) = true := dt (hE2.resolve_left (by decide))
                        clear hE2
                        go_wp2
                        go_ret
                        exact ⟨rfl, (HI.out.set1 true).st, (HI.out.set1 true).bl, (HI.out.set1 true).kp⟩
                     · rw [if_neg hE2] at h
                       have hfF : f' = false := by cases f' with | false => rfl | true => exact absurd (.inl rfl) hE2
                       subst hfF
                       have hlt2 : a < (l.length : Int) := by
                        rcases Int.lt_or_le a l.length with h1 | h1
                        · exact h1
                        · exact absurd (.inr h1) hE2
                       have hatb2 : decide ((l.length : Int) ≤ a) = false := decide_eq_false (by omega)
                       clear hE2
                       have h02 := HG3.out.1
                       obtain ⟨ad2, e, hy0, hy1, hy2⟩ := at_T81 HI.out.rd a h02 hlt2
                       cases e
                       have hys : (rd_T81 l a).f2.size ≤ maxLen := by
                        unfold rd_T81
                        rw [List.getD_eq_getElem?_getD, List.getElem?_eq_getElem (by omega)]
                        exact hsz _ (List.getElem_mem _)
                       generalize rd_T81 l a = y at h hy0 hy1 hy2 hys
                       have HY0 := am hy0; have HY2 := am hy2; clear hy1 hy2
                       replace hy0 := HI.out.el hy0
                       have p6 := eq_true h02
                       have q6 := eq_true hlt2
                       have hwa : wrap64 (a + 1) = a + 1 := by have := HG3.out; have := HGG.out; unfold wrap64; omega
                       by_cases h4 : y.f0 = 4
                       · rw [if_pos h4] at h
                         have h4b : (y.f0 != 4) = false := bne_eq_false_iff_eq.2 h4
                         have h4c : (y.f0 == 4) = true := beq_iff_eq.2 h4
                         clear h4
                         obtain ⟨⟨s1, s2, s3, s4⟩, hv, h⟩ := Option.bind_eq_some_iff.mp h
                         have HV := am hv; have HE2 := am h; clear hv h
                         have hc3 : wr.cell? ⟨g, 3, none⟩ = some (.bool n') := (blk_cell HI.out.bs 3).trans rfl
                         have hf3 := blk_frozen HI.out.bs 3
                         go_upto_region 15 with fail
                         go_cut [] (fun wd => Aside0 (InvV w0 w wd g gv Bm (some ad2) c' l x false t' (n' || decide (4 < d + 1)) names))
                         case first =>
                          cases n' with
                          | true => go_wp2; go_meet; exact ⟨(HI.out.set1 false).set3 true⟩
                          | false => go_wp2; go_meet; exact ⟨(HI.out.set1 false).set3 _⟩
                         case rest =>
                          clear HI hy0 hc0 hc1 hf1 hc3 hf3 hq0 hq1
                          have HI := hcut
                          clear hcut
                          have hc0 : wc.cell? ⟨g, 0, none⟩ = some (.slice (some ad2) l.length c') := (blk_cell HI.out.bs 0).trans rfl
                          have hc2 : wc.cell? ⟨g, 2, none⟩ = some (.bool t') := (blk_cell HI.out.bs 2).trans rfl
                          have hf2 := blk_frozen HI.out.bs 2
                          have hy2 := HI.out.el HY2.out
                          have hlk := HI.out.nm.look Tryd.underlying128 y.f2 hys
                          generalize (names.any fun z => z.data.toList == y.f2.data.toList) = seen at hlk HV
                          go_upto_region 16 with fail
                          go_cut [] (fun wd => Aside0 (InvV w0 w wd g gv Bm (some ad2) c' l x false (t' || seen) (n' || decide (4 < d + 1)) names))
                          case first =>
                           cases t' with
                           | true => go_wp2; go_meet; exact ⟨HI.out.set2 true⟩
                           | false => go_wp2; go_meet; exact ⟨HI.out.set2 _⟩
                          case rest =>
                           clear HI hc0 hc2 hf2 hy2 hlk
                           have HI := hcut
                           clear hcut
                           have hc0 : wc.cell? ⟨g, 0, none⟩ = some (.slice (some ad2) l.length c') := (blk_cell HI.out.bs 0).trans rfl
                           have hy2 := HI.out.el HY2.out
                           go_wp2_with (first | (at_mapUpdate; refine Go.Proofs.YthjlbpgiaehjnaaDoor.HNames.wpList_names rfl _ _ _ 128 rfl Tryd.underlying128 Bm names rfl HI.out.nm (by have := HG2.out; unfold maxLen; omega) y.f2 hys rfl rfl ?_; intro w7 hn7 hg7; have HI7 := am (HI.out.put hn7 hg7); clear hn7 hg7) | (go_at_call 64; refine (ih k1 (by have := HK1.out; omega) g l false _ _ (a + 1) (d + 1) s1 s2 s3 s4 w0 _ hsz HI7.out.st HI7.out.bl HV.out).mono ?_; rintro e w8 ⟨rfl, ⟨A8, c8, hb8, _, hr8⟩, hbl8, hk8⟩; have HI8 := am (HI7.out.call hb8 hr8 hbl8 hk8); clear hb8 hbl8 hk8 hr8))
                           go_roundg k1
                           case measure => omega
                           case rel => exact ⟨s1, i + 1, s2, s3, s4, y.f2 :: names, A8, c8, rfl, (by first | rfl | (simp [hwi]; done)), HE2, ⟨by have := HK1.out; omega⟩, HI8⟩
                       · rw [if_neg h4] at h
                         have h4b : (y.f0 != 4) = true := bne_iff_ne.2 h4
                         have h4c : (y.f0 == 4) = false := beq_eq_false_iff_ne.2 h4
                         clear h4
                         simp only [Option.some.injEq, Prod.mk.injEq] at h
                         obtain ⟨rfl, rfl, rfl, rfl⟩ := h
                         go_wp2
                         go_ret
                         exact ⟨rfl, (HI.out.set1 true).st, (HI.out.set1 true).bl, (HI.out.set1 true).kp⟩
                   · rw [if_neg hG3] at h; cases h
                 · rw [if_neg h6] at h
                   have h6b : (x.f0 == 6) = false := beq_eq_false_iff_ne.2 h6
                   clear h6 hi
                   obtain ⟨⟨s1, s2, s3, s4⟩, hv, h⟩ := Option.bind_eq_some_iff.mp h
                   have HV := am hv; have HE2 := am h; clear hv h
                   go_wp2_with (first | (go_at_call 64; refine (ih k1 (by have := HK1.out; omega) g l f' t' n' a (d + 1) s1 s2 s3 s4 w0 _ hsz HI.out.st HI.out.bl HV.out).mono ?_; rintro e w8 ⟨rfl, ⟨A8, c8, hb8, _, hr8⟩, hbl8, hk8⟩; have HI8 := am (HI.out.call hb8 hr8 hbl8 hk8); clear hb8 hbl8 hk8 hr8))
                   go_roundg k1
                   case measure => omega
                   case rel => exact ⟨s1, i + 1, s2, s3, s4, names, A8, c8, rfl, (by first | rfl | (simp [hwi]; done)), HE2, ⟨by have := HK1.out; omega⟩, HI8⟩
               · rw [if_neg hi] at h
                 have hib : decide (i < x.f1) = false := decide_eq_false hi
                 simp only [Option.some.injEq, Prod.mk.injEq] at h
                 obtain ⟨rfl, rfl, rfl, rfl⟩ := h
                 clear hi
                 go_wp2
                 go_ret
                 exact ⟨rfl, HI.out.st, HI.out.bl, HI.out.kp⟩
             · rw [if_neg hG2] at h; cases h
         · rw [if_neg hk] at h
           have hb' := hb.out
           rw [dt hk] at hb'
           subst hb'
           simp only [Option.some.injEq, Prod.mk.injEq] at h
           obtain ⟨rfl, rfl, rfl, rfl⟩ := h
           clear hb hk
           go_wp2
           go_ret
           exact ⟨by first | rfl | (simp [hw1]; done), HI.out.st, HI.out.bl, HI.out.kp⟩
   · rw [if_neg hG] at h; cases h
/-- More rounds than there are values are never needed. -/
def impl_structure_value.f (s0_0 : List S81) (s0_1 : Bool) (s0_2 : Bool) (s0_3 : Bool) (a1 : Int) (a2 : Int) : Option (Int × Bool × Bool × Bool) := if (∀ x ∈ s0_0, x.f2.size ≤ maxLen) then valueV 100000 s0_0 s0_1 s0_2 s0_3 a1 a2 else none
theorem impl_structure_value.calls (g : Nat) (s0_0 : List S81) (s0_1 : Bool) (s0_2 : Bool) (s0_3 : Bool) (a1 : Int) (a2 : Int) (r1 : Int) (r2 : Bool) (r3 : Bool) (r4 : Bool) (w0 w : World) (hI : IsS98 w0 w g s0_0 s0_1 s0_2 s0_3) (hB : Below w0.heap.size w0 w) (h : impl_structure_value.f s0_0 s0_1 s0_2 s0_3 a1 a2 = some (r1, r2, r3, r4)) :
 Calls Tryd.prog 64 #[.pointer (some ⟨g, 0, none⟩), .int .i64 a1, .int .i64 a2] w fun e w' => e = .returned (.int .i64 r1) ∧ IsS98 w0 w' g s0_0 r2 r3 r4 ∧ Below w0.heap.size w0 w' ∧ KeepBut w w' g none := by
 unfold impl_structure_value.f at h
 by_cases hs : ∀ x ∈ s0_0, x.f2.size ≤ maxLen
 · rw [if_pos hs] at h
   exact valueV_calls 100000 g s0_0 s0_1 s0_2 s0_3 a1 a2 r1 r2 r3 r4 w0 w hs hI hB h
 · rw [if_neg hs] at h; cases h
end Go.Proofs.YthjlbpgiaehjnaaDoor.QFnCuts
