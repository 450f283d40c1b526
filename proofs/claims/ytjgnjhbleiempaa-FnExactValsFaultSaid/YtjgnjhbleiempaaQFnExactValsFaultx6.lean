-- written by this session's program (wip/tools/myprint.py)
import Derived.Test.YtjgnjhbleiempaaQFnExactValsFaultx0
import Derived.Test.YtjgnjhbleiempaaQFnExactValsFaultx5
namespace Go.Proofs.Ytjgnjhbleiempaa.QFnExactValsFault
open Go.RowKit Go.Proofs.YtjgnjhbleiempaaW.PrintWords Go.Proofs.YtjgnjhbleiempaaW.PrintLast Go.Proofs.YtjgnjhbleiempaaW.PrintMore
attribute [local go_sem] max2_int min2_int max_two min_two max_three min_three max_four min_four   -- for this text's walks alone
set_option linter.unusedVariables false
set_option linter.unusedSimpArgs false

/-! ### impl_valFault: function 119 -/
mutual
def impl_valFault.j0 : Nat → Int → Int → Int → ByteArray → Option (Int)
  | 0, _, _, _, _ => none
  | k + 1, x3, x162000, x162001, x162002 => (impl_in.f x162000 1 6).bind fun t162 => (if t162 = true then (if x162000 = 4 then (if x162000 = 1 then (impl_valFault.j1 k x3 (x162001 != 0) x162000 x162001 x162002) else (impl_valFault.j1 k x3 (x162001 != 0) x162000 x162001 x162002)) else (if x162002.toList = ([] : List UInt8) then (if x162000 = 1 then (impl_valFault.j1 k x3 (x162001 != 0) x162000 x162001 x162002) else (impl_valFault.j1 k x3 false x162000 x162001 x162002)) else (impl_valFault.j1 k x3 true x162000 x162001 x162002))) else (impl_valFault.j1 k x3 true x162000 x162001 x162002))
def impl_valFault.j1 : Nat → Int → Bool → Int → Int → ByteArray → Option (Int)
  | 0, _, _, _, _, _ => none
  | k + 1, x3, x13, x162000, x162001, x162002 => if x13 = true then (some 1) else ((impl_in.f x162001 0 x3).bind fun t163 => (if t163 = true then ((impl_textOk.f k x162002).bind fun t164 => (if t164 = true then (some 0) else (some 5))) else (some 3)))
end
def impl_valFault.f (k : Nat) (a0_0 : Int) (a0_1 : Int) (a0_2 : ByteArray) : Option (Int) := if a0_0 = 2 then (impl_valFault.j0 k 1 a0_0 a0_1 a0_2) else (if a0_0 = 3 then (impl_valFault.j0 k 2147483646 a0_0 a0_1 a0_2) else (if a0_0 = 5 then (impl_valFault.j0 k 20 a0_0 a0_1 a0_2) else (if a0_0 = 6 then (impl_valFault.j0 k 20 a0_0 a0_1 a0_2) else (impl_valFault.j0 k 0 a0_0 a0_1 a0_2))))
theorem impl_valFault.mono_l : ∀ k, (∀ y0 y1 y2 y3, LeO (impl_valFault.j0 k y0 y1 y2 y3) (impl_valFault.j0 (k + 1) y0 y1 y2 y3)) ∧ (∀ y0 y1 y2 y3 y4, LeO (impl_valFault.j1 k y0 y1 y2 y3 y4) (impl_valFault.j1 (k + 1) y0 y1 y2 y3 y4))
  | 0 => ⟨fun _ _ _ _ r h => by simp [impl_valFault.j0] at h, fun _ _ _ _ _ r h => by simp [impl_valFault.j1] at h⟩
  | k + 1 => by
    obtain ⟨ih0, ih1⟩ := impl_valFault.mono_l k
    refine ⟨?_, ?_⟩
    · intro y0 y1 y2 y3
      unfold impl_valFault.j0
      repeat' first
      | (with_reducible exact ih0 _ _ _ _)
      | (with_reducible exact ih1 _ _ _ _ _)
      | (with_reducible exact impl_textOk.mono _ _)
      | (with_reducible exact LeO.refl _)
      | (with_reducible exact LeO.none _)
      | (with_reducible refine LeO.ite ?_ ?_)
      | (with_reducible refine LeO.bind ?_ (fun _ => ?_))
      | exact ih0 _ _ _ _
      | exact ih1 _ _ _ _ _
      | exact impl_textOk.mono _ _
      | exact LeO.none _
      | refine LeO.ite ?_ ?_
      | refine LeO.bind ?_ (fun _ => ?_)
    · intro y0 y1 y2 y3 y4
      unfold impl_valFault.j1
      repeat' first
      | (with_reducible exact ih0 _ _ _ _)
      | (with_reducible exact ih1 _ _ _ _ _)
      | (with_reducible exact impl_textOk.mono _ _)
      | (with_reducible exact LeO.refl _)
      | (with_reducible exact LeO.none _)
      | (with_reducible refine LeO.ite ?_ ?_)
      | (with_reducible refine LeO.bind ?_ (fun _ => ?_))
      | exact ih0 _ _ _ _
      | exact ih1 _ _ _ _ _
      | exact impl_textOk.mono _ _
      | exact LeO.none _
      | refine LeO.ite ?_ ?_
      | refine LeO.bind ?_ (fun _ => ?_)
theorem impl_valFault.mono : ∀ a0 a1 a2 k, LeO (impl_valFault.f k a0 a1 a2) (impl_valFault.f (k + 1) a0 a1 a2) := by
  intro a0 a1 a2 k
  obtain ⟨ih0, ih1⟩ := impl_valFault.mono_l k
  unfold impl_valFault.f
  repeat' first
      | (with_reducible exact ih0 _ _ _ _)
      | (with_reducible exact ih1 _ _ _ _ _)
      | (with_reducible exact impl_textOk.mono _ _)
      | (with_reducible exact LeO.refl _)
      | (with_reducible exact LeO.none _)
      | (with_reducible refine LeO.ite ?_ ?_)
      | (with_reducible refine LeO.bind ?_ (fun _ => ?_))
      | exact ih0 _ _ _ _
      | exact ih1 _ _ _ _ _
      | exact impl_textOk.mono _ _
      | exact LeO.none _
      | refine LeO.ite ?_ ?_
      | refine LeO.bind ?_ (fun _ => ?_)
set_option maxHeartbeats 8000000 in
set_option maxRecDepth 100000 in
theorem impl_valFault.calls (k : Nat) (a0_0 : Int) (a0_1 : Int) (a0_2 : ByteArray) (r : Int) (w : World) (h : impl_valFault.f k a0_0 a0_1 a0_2 = some r) :
    Calls Try.prog 119 #[.agg #[.int .i64 a0_0, .int .i64 a0_1, .string a0_2]] w fun e w' => e = .returned (.int .i64 r) ∧ Below w.heap.size w w' := by
  have hu129 := Try.underlying129
  have HB := Aside0.mk (Below.refl w.heap.size w)
  have H : (if a0_0 = 2 then (impl_valFault.j0 k 1 a0_0 a0_1 a0_2) else (if a0_0 = 3 then (impl_valFault.j0 k 2147483646 a0_0 a0_1 a0_2) else (if a0_0 = 5 then (impl_valFault.j0 k 20 a0_0 a0_1 a0_2) else (if a0_0 = 6 then (impl_valFault.j0 k 20 a0_0 a0_1 a0_2) else (impl_valFault.j0 k 0 a0_0 a0_1 a0_2))))) = some r := h
  clear h
  have HC2 := Aside0.mk H
  clear H
  go_enter Try.func119, Try.ntmps119
  go_upto_block 0 with (first | ((with_reducible refine gate_dst (N := 1) rfl ?_); refine box_event ?hg (N := 1) ?hd (cs := #[.int .i64 a0_0, .int .i64 a0_1, .string a0_2]) (t := 129) ?hr ?_; (case hd => rfl); (case hg => rfl); (case hr => first | (go_simp; done) | (go_simp; rfl)); intro gb161 hg w3 hbox hb; have n0_ := Aside0.mk (below_step (by repeat (first | (with_reducible first | exact HB.out | apply below_alloc | apply pw_below_drewN | apply below_drew1) | exact HB.out)) hb); have n1_ := Aside0.mk (hbox); have n2_ := Aside0.mk ((by rw [hg]; exact (below_size (by repeat (first | (with_reducible first | exact HB.out | apply below_alloc | apply pw_below_drewN | apply below_drew1) | exact HB.out))) : w.heap.size ≤ gb161)); have n3_ := Aside0.mk ((by rw [hg]; exact (below_size (by repeat (first | (with_reducible first | exact HB.out | apply below_alloc | apply pw_below_drewN | apply below_drew1) | exact HB.out))) : w.heap.size ≤ gb161)); clear HB; have HB := n0_; have BK161 := n1_; have GW161 := n2_; have GE161 := n3_; clear n0_ n1_ n2_ n3_; clear hb hbox hg; have hcz4_0 : w3.cell? ⟨gb161, 0, none⟩ = some (.int .i64 a0_0) := (blk_cell BK161.out 0).trans rfl; have hcz4_1 : w3.cell? ⟨gb161, 1, none⟩ = some (.int .i64 a0_1) := (blk_cell BK161.out 1).trans rfl; have hcz4_2 : w3.cell? ⟨gb161, 2, none⟩ = some (.string a0_2) := (blk_cell BK161.out 2).trans rfl; have hfz4_0 := blk_frozen BK161.out 0; have hfz4_1 := blk_frozen BK161.out 1; have hfz4_2 := blk_frozen BK161.out 2))
  (try simp only [Act.put, List.setIfInBounds_toArray, List.set_cons_zero, List.set_cons_succ])
  go_cut [3] (fun v3 wc => ∃ (kq : Nat) (x3_1 : Int), v3 = .int .i64 x3_1 ∧ Aside0 (impl_valFault.j0 kq x3_1 a0_0 a0_1 a0_2 = some r) ∧ Aside0 (kq ≤ k) ∧ Aside0 (wc.heap[gb161]? = some (.cells #[.int .i64 a0_0, .int .i64 a0_1, .string a0_2] 129 (0, 0))) ∧ Aside0 (Below w.heap.size w wc))
  case first =>
    have H := HC2.out
    clear HC2
    by_cases c5 : a0_0 = 2
    · rw [if_pos c5] at H
      have c5b0 : (a0_0 == 2) = true := beq_iff_eq.mpr c5
      have c5b1 : (a0_0 != 2) = false := bne_eq_false_iff_eq.mpr c5
      clear c5
      (first | rw [c5b0] | (simp only [i64_w, i32_w]; rw [c5b0]) | skip)
      have H' := Aside0.mk H
      clear H
      go_wp2
      go_meet
      case rel => exact ⟨_, (1), (by first | rfl | (simp; done) | (simp [*]; done)), H', ⟨by first | omega | exact Nat.le_refl _⟩, ⟨by (with_reducible repeat (first | refine blk_drewN ?_ _ | refine blk_drew ?_ | refine blk_alloc ?_ _)); exact BK161.out⟩, ⟨by repeat (first | (with_reducible first | exact HB.out | apply below_alloc | apply pw_below_drewN | apply below_drew1 | refine below_set ?_ GE161.out) | exact HB.out)⟩⟩
    · rw [if_neg c5] at H
      have c5b0 : (a0_0 == 2) = false := beq_eq_false_iff_ne.mpr c5
      have c5b1 : (a0_0 != 2) = true := bne_iff_ne.mpr c5
      (first | rw [c5b0] | (simp only [i64_w, i32_w]; rw [c5b0]) | skip)
      by_cases c6 : a0_0 = 3
      · rw [if_pos c6] at H
        have c6b0 : (a0_0 == 3) = true := beq_iff_eq.mpr c6
        have c6b1 : (a0_0 != 3) = false := bne_eq_false_iff_eq.mpr c6
        clear c6
        have H' := Aside0.mk H
        clear H
        go_wp2
        go_meet
        case rel => exact ⟨_, (2147483646), (by first | rfl | (simp; done) | (simp [*]; done)), H', ⟨by first | omega | exact Nat.le_refl _⟩, ⟨by (with_reducible repeat (first | refine blk_drewN ?_ _ | refine blk_drew ?_ | refine blk_alloc ?_ _)); exact BK161.out⟩, ⟨by repeat (first | (with_reducible first | exact HB.out | apply below_alloc | apply pw_below_drewN | apply below_drew1 | refine below_set ?_ GE161.out) | exact HB.out)⟩⟩
      · rw [if_neg c6] at H
        have c6b0 : (a0_0 == 3) = false := beq_eq_false_iff_ne.mpr c6
        have c6b1 : (a0_0 != 3) = true := bne_iff_ne.mpr c6
        by_cases c7 : a0_0 = 5
        · rw [if_pos c7] at H
          have c7b0 : (a0_0 == 5) = true := beq_iff_eq.mpr c7
          have c7b1 : (a0_0 != 5) = false := bne_eq_false_iff_eq.mpr c7
          clear c7
          have H' := Aside0.mk H
          clear H
          go_wp2
          go_meet
          case rel => exact ⟨_, (20), (by first | rfl | (simp; done) | (simp [*]; done)), H', ⟨by first | omega | exact Nat.le_refl _⟩, ⟨by (with_reducible repeat (first | refine blk_drewN ?_ _ | refine blk_drew ?_ | refine blk_alloc ?_ _)); exact BK161.out⟩, ⟨by repeat (first | (with_reducible first | exact HB.out | apply below_alloc | apply pw_below_drewN | apply below_drew1 | refine below_set ?_ GE161.out) | exact HB.out)⟩⟩
        · rw [if_neg c7] at H
          have c7b0 : (a0_0 == 5) = false := beq_eq_false_iff_ne.mpr c7
          have c7b1 : (a0_0 != 5) = true := bne_iff_ne.mpr c7
          by_cases c8 : a0_0 = 6
          · rw [if_pos c8] at H
            have c8b0 : (a0_0 == 6) = true := beq_iff_eq.mpr c8
            have c8b1 : (a0_0 != 6) = false := bne_eq_false_iff_eq.mpr c8
            clear c8
            have H' := Aside0.mk H
            clear H
            go_wp2
            go_meet
            case rel => exact ⟨_, (20), (by first | rfl | (simp; done) | (simp [*]; done)), H', ⟨by first | omega | exact Nat.le_refl _⟩, ⟨by (with_reducible repeat (first | refine blk_drewN ?_ _ | refine blk_drew ?_ | refine blk_alloc ?_ _)); exact BK161.out⟩, ⟨by repeat (first | (with_reducible first | exact HB.out | apply below_alloc | apply pw_below_drewN | apply below_drew1 | refine below_set ?_ GE161.out) | exact HB.out)⟩⟩
          · rw [if_neg c8] at H
            have c8b0 : (a0_0 == 6) = false := beq_eq_false_iff_ne.mpr c8
            have c8b1 : (a0_0 != 6) = true := bne_iff_ne.mpr c8
            have H' := Aside0.mk H
            clear H
            go_wp2
            go_meet
            case rel => exact ⟨_, (0), (by first | rfl | (simp; done) | (simp [*]; done)), H', ⟨by first | omega | exact Nat.le_refl _⟩, ⟨by (with_reducible repeat (first | refine blk_drewN ?_ _ | refine blk_drew ?_ | refine blk_alloc ?_ _)); exact BK161.out⟩, ⟨by repeat (first | (with_reducible first | exact HB.out | apply below_alloc | apply pw_below_drewN | apply below_drew1 | refine below_set ?_ GE161.out) | exact HB.out)⟩⟩
  case rest =>
    clear HC2
    try clear c1
    try clear p2
    try clear c5
    try clear c5b0
    try clear c5b1
    try clear c6
    try clear c6b0
    try clear c6b1
    try clear c7
    try clear c7b0
    try clear c7b1
    try clear c8
    try clear c8b0
    try clear c8b1
    try clear hcz4_0
    try clear hcz4_1
    try clear hcz4_2
    try clear hfz4_0
    try clear hfz4_1
    try clear hfz4_2
    obtain ⟨kq, x3_1, rfl, HA, HJ1, BK161, HB⟩ := hcut
    cases kq with
    | zero => exact absurd HA.out (by simp [impl_valFault.j0])
    | succ kj1 =>
      have H := HA.out
      clear HA
      simp only [impl_valFault.j0] at H
      have HC9 := Aside0.mk H
      clear H
      go_upto_region 10 with (fail)
      go_cut [13] (fun v13 wc => ∃ (kq : Nat) (x13_8 : Bool), v13 = .bool x13_8 ∧ Aside0 (impl_valFault.j1 kq x3_1 x13_8 a0_0 a0_1 a0_2 = some r) ∧ Aside0 (kq ≤ kj1) ∧ Aside0 (wc.heap[gb161]? = some (.cells #[.int .i64 a0_0, .int .i64 a0_1, .string a0_2] 129 (0, 0))) ∧ Aside0 (Below w.heap.size w wc))
      case first =>
        have H := HC9.out
        clear HC9
        replace H := Option.bind_eq_some_iff.mp H
        obtain ⟨t162, A100, H⟩ := H
        replace H : (if t162 = true then (if a0_0 = 4 then (if a0_0 = 1 then (impl_valFault.j1 kj1 x3_1 (a0_1 != 0) a0_0 a0_1 a0_2) else (impl_valFault.j1 kj1 x3_1 (a0_1 != 0) a0_0 a0_1 a0_2)) else (if a0_2.toList = ([] : List UInt8) then (if a0_0 = 1 then (impl_valFault.j1 kj1 x3_1 (a0_1 != 0) a0_0 a0_1 a0_2) else (impl_valFault.j1 kj1 x3_1 false a0_0 a0_1 a0_2)) else (impl_valFault.j1 kj1 x3_1 true a0_0 a0_1 a0_2))) else (impl_valFault.j1 kj1 x3_1 true a0_0 a0_1 a0_2)) = some r := H
        have A10 := Aside0.mk A100
        clear A100
        by_cases c11 : t162 = true
        · subst c11
          have H1 : (if a0_0 = 4 then (if a0_0 = 1 then (impl_valFault.j1 kj1 x3_1 (a0_1 != 0) a0_0 a0_1 a0_2) else (impl_valFault.j1 kj1 x3_1 (a0_1 != 0) a0_0 a0_1 a0_2)) else (if a0_2.toList = ([] : List UInt8) then (if a0_0 = 1 then (impl_valFault.j1 kj1 x3_1 (a0_1 != 0) a0_0 a0_1 a0_2) else (impl_valFault.j1 kj1 x3_1 false a0_0 a0_1 a0_2)) else (impl_valFault.j1 kj1 x3_1 true a0_0 a0_1 a0_2))) = some r := by rw [if_pos rfl] at H; exact H
          clear H
          have H := H1
          clear H1
          by_cases c12 : a0_0 = 4
          · rw [if_pos c12] at H
            have c12b0 : (a0_0 == 4) = true := beq_iff_eq.mpr c12
            have c12b1 : (a0_0 != 4) = false := bne_eq_false_iff_eq.mpr c12
            clear c12
            (first | rw [c12b0] | (simp only [i64_w, i32_w]; rw [c12b0]) | skip)
            by_cases c13 : a0_0 = 1
            · rw [if_pos c13] at H
              have c13b0 : (a0_0 == 1) = true := beq_iff_eq.mpr c13
              have c13b1 : (a0_0 != 1) = false := bne_eq_false_iff_eq.mpr c13
              clear c13
              have H' := Aside0.mk H
              clear H
              have hcz14_0 : wc.cell? ⟨gb161, 0, none⟩ = some (.int .i64 a0_0) := (blk_cell BK161.out 0).trans rfl
              have hcz14_1 : wc.cell? ⟨gb161, 1, none⟩ = some (.int .i64 a0_1) := (blk_cell BK161.out 1).trans rfl
              have hcz14_2 : wc.cell? ⟨gb161, 2, none⟩ = some (.string a0_2) := (blk_cell BK161.out 2).trans rfl
              have hfz14_0 := blk_frozen BK161.out 0
              have hfz14_1 := blk_frozen BK161.out 1
              have hfz14_2 := blk_frozen BK161.out 2
              go_wp2_with (first | ((with_reducible refine gate_callee (f := 110) rfl ?_); refine goesL_ (some 16) rfl rfl Try.func110 (by kernel_rfl) rfl #[.int .i64 a0_0, .int .i64 1, .int .i64 6] rfl (by (try simp only [List.map_toArray, List.map_cons, List.map_nil]); first | done | rfl | (simp only [List.length_drop, List.length_take]; rfl)) ?_; (with_reducible refine (impl_in.calls a0_0 1 6 true _ A10.out).mono ?_); rintro e w' ⟨rfl, ⟨nd, rfl⟩⟩; refine ⟨_, rfl, ?_⟩))
              go_meet
              case rel => exact ⟨_, ((a0_1 != 0)), (by first | rfl | (simp; done) | (simp [*]; done)), H', ⟨by have := HJ1.out; first | omega | exact Nat.le_refl _⟩, ⟨by (with_reducible repeat (first | refine blk_drewN ?_ _ | refine blk_drew ?_ | refine blk_alloc ?_ _)); exact BK161.out⟩, ⟨by repeat (first | (with_reducible first | exact HB.out | apply below_alloc | apply pw_below_drewN | apply below_drew1 | refine below_set ?_ GE161.out) | exact HB.out)⟩⟩
            · rw [if_neg c13] at H
              have c13b0 : (a0_0 == 1) = false := beq_eq_false_iff_ne.mpr c13
              have c13b1 : (a0_0 != 1) = true := bne_iff_ne.mpr c13
              have H' := Aside0.mk H
              clear H
              have hcz15_0 : wc.cell? ⟨gb161, 0, none⟩ = some (.int .i64 a0_0) := (blk_cell BK161.out 0).trans rfl
              have hcz15_1 : wc.cell? ⟨gb161, 1, none⟩ = some (.int .i64 a0_1) := (blk_cell BK161.out 1).trans rfl
              have hcz15_2 : wc.cell? ⟨gb161, 2, none⟩ = some (.string a0_2) := (blk_cell BK161.out 2).trans rfl
              have hfz15_0 := blk_frozen BK161.out 0
              have hfz15_1 := blk_frozen BK161.out 1
              have hfz15_2 := blk_frozen BK161.out 2
              go_wp2_with (first | ((with_reducible refine gate_callee (f := 110) rfl ?_); refine goesL_ (some 16) rfl rfl Try.func110 (by kernel_rfl) rfl #[.int .i64 a0_0, .int .i64 1, .int .i64 6] rfl (by (try simp only [List.map_toArray, List.map_cons, List.map_nil]); first | done | rfl | (simp only [List.length_drop, List.length_take]; rfl)) ?_; (with_reducible refine (impl_in.calls a0_0 1 6 true _ A10.out).mono ?_); rintro e w' ⟨rfl, ⟨nd, rfl⟩⟩; refine ⟨_, rfl, ?_⟩))
              go_meet
              case rel => exact ⟨_, ((a0_1 != 0)), (by first | rfl | (simp; done) | (simp [*]; done)), H', ⟨by have := HJ1.out; first | omega | exact Nat.le_refl _⟩, ⟨by (with_reducible repeat (first | refine blk_drewN ?_ _ | refine blk_drew ?_ | refine blk_alloc ?_ _)); exact BK161.out⟩, ⟨by repeat (first | (with_reducible first | exact HB.out | apply below_alloc | apply pw_below_drewN | apply below_drew1 | refine below_set ?_ GE161.out) | exact HB.out)⟩⟩
          · rw [if_neg c12] at H
            have c12b0 : (a0_0 == 4) = false := beq_eq_false_iff_ne.mpr c12
            have c12b1 : (a0_0 != 4) = true := bne_iff_ne.mpr c12
            (first | rw [c12b0] | (simp only [i64_w, i32_w]; rw [c12b0]) | skip)
            by_cases c16 : a0_2.toList = ([] : List UInt8)
            · rw [if_pos c16] at H
              have c16b0 : (a0_2.toList == ([] : List UInt8)) = true := beq_iff_eq.mpr c16
              have c16b1 : (a0_2.toList != ([] : List UInt8)) = false := bne_eq_false_iff_eq.mpr c16
              clear c16
              by_cases c17 : a0_0 = 1
              · rw [if_pos c17] at H
                have c17b0 : (a0_0 == 1) = true := beq_iff_eq.mpr c17
                have c17b1 : (a0_0 != 1) = false := bne_eq_false_iff_eq.mpr c17
                clear c17
                have H' := Aside0.mk H
                clear H
                have hcz18_0 : wc.cell? ⟨gb161, 0, none⟩ = some (.int .i64 a0_0) := (blk_cell BK161.out 0).trans rfl
                have hcz18_1 : wc.cell? ⟨gb161, 1, none⟩ = some (.int .i64 a0_1) := (blk_cell BK161.out 1).trans rfl
                have hcz18_2 : wc.cell? ⟨gb161, 2, none⟩ = some (.string a0_2) := (blk_cell BK161.out 2).trans rfl
                have hfz18_0 := blk_frozen BK161.out 0
                have hfz18_1 := blk_frozen BK161.out 1
                have hfz18_2 := blk_frozen BK161.out 2
                go_wp2_with (first | ((with_reducible refine gate_callee (f := 110) rfl ?_); refine goesL_ (some 16) rfl rfl Try.func110 (by kernel_rfl) rfl #[.int .i64 a0_0, .int .i64 1, .int .i64 6] rfl (by (try simp only [List.map_toArray, List.map_cons, List.map_nil]); first | done | rfl | (simp only [List.length_drop, List.length_take]; rfl)) ?_; (with_reducible refine (impl_in.calls a0_0 1 6 true _ A10.out).mono ?_); rintro e w' ⟨rfl, ⟨nd, rfl⟩⟩; refine ⟨_, rfl, ?_⟩))
                go_meet
                case rel => exact ⟨_, ((a0_1 != 0)), (by first | rfl | (simp; done) | (simp [*]; done)), H', ⟨by have := HJ1.out; first | omega | exact Nat.le_refl _⟩, ⟨by (with_reducible repeat (first | refine blk_drewN ?_ _ | refine blk_drew ?_ | refine blk_alloc ?_ _)); exact BK161.out⟩, ⟨by repeat (first | (with_reducible first | exact HB.out | apply below_alloc | apply pw_below_drewN | apply below_drew1 | refine below_set ?_ GE161.out) | exact HB.out)⟩⟩
              · rw [if_neg c17] at H
                have c17b0 : (a0_0 == 1) = false := beq_eq_false_iff_ne.mpr c17
                have c17b1 : (a0_0 != 1) = true := bne_iff_ne.mpr c17
                have H' := Aside0.mk H
                clear H
                have hcz19_0 : wc.cell? ⟨gb161, 0, none⟩ = some (.int .i64 a0_0) := (blk_cell BK161.out 0).trans rfl
                have hcz19_1 : wc.cell? ⟨gb161, 1, none⟩ = some (.int .i64 a0_1) := (blk_cell BK161.out 1).trans rfl
                have hcz19_2 : wc.cell? ⟨gb161, 2, none⟩ = some (.string a0_2) := (blk_cell BK161.out 2).trans rfl
                have hfz19_0 := blk_frozen BK161.out 0
                have hfz19_1 := blk_frozen BK161.out 1
                have hfz19_2 := blk_frozen BK161.out 2
                go_wp2_with (first | ((with_reducible refine gate_callee (f := 110) rfl ?_); refine goesL_ (some 16) rfl rfl Try.func110 (by kernel_rfl) rfl #[.int .i64 a0_0, .int .i64 1, .int .i64 6] rfl (by (try simp only [List.map_toArray, List.map_cons, List.map_nil]); first | done | rfl | (simp only [List.length_drop, List.length_take]; rfl)) ?_; (with_reducible refine (impl_in.calls a0_0 1 6 true _ A10.out).mono ?_); rintro e w' ⟨rfl, ⟨nd, rfl⟩⟩; refine ⟨_, rfl, ?_⟩))
                go_meet
                case rel => exact ⟨_, (false), (by first | rfl | (simp; done) | (simp [*]; done)), H', ⟨by have := HJ1.out; first | omega | exact Nat.le_refl _⟩, ⟨by (with_reducible repeat (first | refine blk_drewN ?_ _ | refine blk_drew ?_ | refine blk_alloc ?_ _)); exact BK161.out⟩, ⟨by repeat (first | (with_reducible first | exact HB.out | apply below_alloc | apply pw_below_drewN | apply below_drew1 | refine below_set ?_ GE161.out) | exact HB.out)⟩⟩
            · rw [if_neg c16] at H
              have c16b0 : (a0_2.toList == ([] : List UInt8)) = false := beq_eq_false_iff_ne.mpr c16
              have c16b1 : (a0_2.toList != ([] : List UInt8)) = true := bne_iff_ne.mpr c16
              have H' := Aside0.mk H
              clear H
              have hcz20_0 : wc.cell? ⟨gb161, 0, none⟩ = some (.int .i64 a0_0) := (blk_cell BK161.out 0).trans rfl
              have hcz20_1 : wc.cell? ⟨gb161, 1, none⟩ = some (.int .i64 a0_1) := (blk_cell BK161.out 1).trans rfl
              have hcz20_2 : wc.cell? ⟨gb161, 2, none⟩ = some (.string a0_2) := (blk_cell BK161.out 2).trans rfl
              have hfz20_0 := blk_frozen BK161.out 0
              have hfz20_1 := blk_frozen BK161.out 1
              have hfz20_2 := blk_frozen BK161.out 2
              go_wp2_with (first | ((with_reducible refine gate_callee (f := 110) rfl ?_); refine goesL_ (some 16) rfl rfl Try.func110 (by kernel_rfl) rfl #[.int .i64 a0_0, .int .i64 1, .int .i64 6] rfl (by (try simp only [List.map_toArray, List.map_cons, List.map_nil]); first | done | rfl | (simp only [List.length_drop, List.length_take]; rfl)) ?_; (with_reducible refine (impl_in.calls a0_0 1 6 true _ A10.out).mono ?_); rintro e w' ⟨rfl, ⟨nd, rfl⟩⟩; refine ⟨_, rfl, ?_⟩))
              go_meet
              case rel => exact ⟨_, (true), (by first | rfl | (simp; done) | (simp [*]; done)), H', ⟨by have := HJ1.out; first | omega | exact Nat.le_refl _⟩, ⟨by (with_reducible repeat (first | refine blk_drewN ?_ _ | refine blk_drew ?_ | refine blk_alloc ?_ _)); exact BK161.out⟩, ⟨by repeat (first | (with_reducible first | exact HB.out | apply below_alloc | apply pw_below_drewN | apply below_drew1 | refine below_set ?_ GE161.out) | exact HB.out)⟩⟩
        · replace c11 := Bool.eq_false_iff.mpr c11
          subst c11
          have H1 : (impl_valFault.j1 kj1 x3_1 true a0_0 a0_1 a0_2) = some r := by rw [if_neg (show ¬ (false = true) by decide)] at H; exact H
          clear H
          have H := H1
          clear H1
          have H' := Aside0.mk H
          clear H
          have hcz21_0 : wc.cell? ⟨gb161, 0, none⟩ = some (.int .i64 a0_0) := (blk_cell BK161.out 0).trans rfl
          have hcz21_1 : wc.cell? ⟨gb161, 1, none⟩ = some (.int .i64 a0_1) := (blk_cell BK161.out 1).trans rfl
          have hcz21_2 : wc.cell? ⟨gb161, 2, none⟩ = some (.string a0_2) := (blk_cell BK161.out 2).trans rfl
          have hfz21_0 := blk_frozen BK161.out 0
          have hfz21_1 := blk_frozen BK161.out 1
          have hfz21_2 := blk_frozen BK161.out 2
          go_wp2_with (first | ((with_reducible refine gate_callee (f := 110) rfl ?_); refine goesL_ (some 16) rfl rfl Try.func110 (by kernel_rfl) rfl #[.int .i64 a0_0, .int .i64 1, .int .i64 6] rfl (by (try simp only [List.map_toArray, List.map_cons, List.map_nil]); first | done | rfl | (simp only [List.length_drop, List.length_take]; rfl)) ?_; (with_reducible refine (impl_in.calls a0_0 1 6 false _ A10.out).mono ?_); rintro e w' ⟨rfl, ⟨nd, rfl⟩⟩; refine ⟨_, rfl, ?_⟩))
          go_meet
          case rel => exact ⟨_, (true), (by first | rfl | (simp; done) | (simp [*]; done)), H', ⟨by have := HJ1.out; first | omega | exact Nat.le_refl _⟩, ⟨by (with_reducible repeat (first | refine blk_drewN ?_ _ | refine blk_drew ?_ | refine blk_alloc ?_ _)); exact BK161.out⟩, ⟨by repeat (first | (with_reducible first | exact HB.out | apply below_alloc | apply pw_below_drewN | apply below_drew1 | refine below_set ?_ GE161.out) | exact HB.out)⟩⟩
      case rest =>
        clear HC9
        try clear c1
        try clear p2
        try clear c5
        try clear c5b0
        try clear c5b1
        try clear c6
        try clear c6b0
        try clear c6b1
        try clear c7
        try clear c7b0
        try clear c7b1
        try clear c8
        try clear c8b0
        try clear c8b1
        try clear c11
        try clear c12
        try clear c12b0
        try clear c12b1
        try clear c13
        try clear c13b0
        try clear c13b1
        try clear c16
        try clear c16b0
        try clear c16b1
        try clear c17
        try clear c17b0
        try clear c17b1
        try clear hcz14_0
        try clear hcz14_1
        try clear hcz14_2
        try clear hcz15_0
        try clear hcz15_1
        try clear hcz15_2
        try clear hcz18_0
        try clear hcz18_1
        try clear hcz18_2
        try clear hcz19_0
        try clear hcz19_1
        try clear hcz19_2
        try clear hcz20_0
        try clear hcz20_1
        try clear hcz20_2
        try clear hcz21_0
        try clear hcz21_1
        try clear hcz21_2
        try clear hcz4_0
        try clear hcz4_1
        try clear hcz4_2
        try clear hfz14_0
        try clear hfz14_1
        try clear hfz14_2
        try clear hfz15_0
        try clear hfz15_1
        try clear hfz15_2
        try clear hfz18_0
        try clear hfz18_1
        try clear hfz18_2
        try clear hfz19_0
        try clear hfz19_1
        try clear hfz19_2
        try clear hfz20_0
        try clear hfz20_1
        try clear hfz20_2
        try clear hfz21_0
        try clear hfz21_1
        try clear hfz21_2
        try clear hfz4_0
        try clear hfz4_1
        try clear hfz4_2
        try clear p2
        obtain ⟨kq, x13_8, rfl, HA, HJ8, BK161, HB⟩ := hcut
        cases kq with
        | zero => exact absurd HA.out (by simp [impl_valFault.j1])
        | succ kj8 =>
          have H := HA.out
          clear HA
          simp only [impl_valFault.j1] at H
          by_cases c22 : x13_8 = true
          · subst c22
            have H1 : (some 1) = some r := by rw [if_pos rfl] at H; exact H
            clear H
            have H := H1
            clear H1
            obtain rfl := Option.some.inj H
            go_wp2
            go_ret
            exact ⟨by first | rfl | (simp [errW_none, errW_some] <;> rfl) | (simp [*, errW_none, errW_some] <;> rfl), by repeat (first | (with_reducible first | exact HB.out | apply below_alloc | apply pw_below_drewN | apply below_drew1 | refine below_set ?_ GE161.out) | exact HB.out)⟩
          · replace c22 := Bool.eq_false_iff.mpr c22
            subst c22
            have H1 : ((impl_in.f a0_1 0 x3_1).bind fun t163 => (if t163 = true then ((impl_textOk.f kj8 a0_2).bind fun t164 => (if t164 = true then (some 0) else (some 5))) else (some 3))) = some r := by rw [if_neg (show ¬ (false = true) by decide)] at H; exact H
            clear H
            have H := H1
            clear H1
            replace H := Option.bind_eq_some_iff.mp H
            obtain ⟨t163, A230, H⟩ := H
            replace H : (if t163 = true then ((impl_textOk.f kj8 a0_2).bind fun t164 => (if t164 = true then (some 0) else (some 5))) else (some 3)) = some r := H
            have A23 := Aside0.mk A230
            clear A230
            by_cases c24 : t163 = true
            · subst c24
              have H1 : ((impl_textOk.f kj8 a0_2).bind fun t164 => (if t164 = true then (some 0) else (some 5))) = some r := by rw [if_pos rfl] at H; exact H
              clear H
              have H := H1
              clear H1
              replace H := Option.bind_eq_some_iff.mp H
              obtain ⟨t164, A250, H⟩ := H
              replace H : (if t164 = true then (some 0) else (some 5)) = some r := H
              have A25 := Aside0.mk A250
              clear A250
              by_cases c26 : t164 = true
              · subst c26
                have H1 : (some 0) = some r := by rw [if_pos rfl] at H; exact H
                clear H
                have H := H1
                clear H1
                obtain rfl := Option.some.inj H
                have hcz27_0 : wc.cell? ⟨gb161, 0, none⟩ = some (.int .i64 a0_0) := (blk_cell BK161.out 0).trans rfl
                have hcz27_1 : wc.cell? ⟨gb161, 1, none⟩ = some (.int .i64 a0_1) := (blk_cell BK161.out 1).trans rfl
                have hcz27_2 : wc.cell? ⟨gb161, 2, none⟩ = some (.string a0_2) := (blk_cell BK161.out 2).trans rfl
                have hfz27_0 := blk_frozen BK161.out 0
                have hfz27_1 := blk_frozen BK161.out 1
                have hfz27_2 := blk_frozen BK161.out 2
                go_wp2_with (first | ((with_reducible refine gate_callee (f := 110) rfl ?_); refine goesL_ (some 47) rfl rfl Try.func110 (by kernel_rfl) rfl #[.int .i64 a0_1, .int .i64 0, .int .i64 x3_1] rfl (by (try simp only [List.map_toArray, List.map_cons, List.map_nil]); first | done | rfl | (simp only [List.length_drop, List.length_take]; rfl)) ?_; (with_reducible refine (impl_in.calls a0_1 0 x3_1 true _ A23.out).mono ?_); rintro e w' ⟨rfl, ⟨nd, rfl⟩⟩; refine ⟨_, rfl, ?_⟩) | ((with_reducible refine gate_callee (f := 165) rfl ?_); refine goesL_ (some 52) rfl rfl Try.func165 (by kernel_rfl) rfl #[.string a0_2] rfl (by (try simp only [List.map_toArray, List.map_cons, List.map_nil]); first | done | rfl | (simp only [List.length_drop, List.length_take]; rfl)) ?_; (with_reducible refine (impl_textOk.calls kj8 a0_2 true _ A25.out).mono ?_); rintro e w' ⟨rfl, ⟨nd, rfl⟩⟩; refine ⟨_, rfl, ?_⟩))
                go_ret
                exact ⟨by first | rfl | (simp [errW_none, errW_some] <;> rfl) | (simp [*, errW_none, errW_some] <;> rfl), by repeat (first | (with_reducible first | exact HB.out | apply below_alloc | apply pw_below_drewN | apply below_drew1 | refine below_set ?_ GE161.out) | exact HB.out)⟩
              · replace c26 := Bool.eq_false_iff.mpr c26
                subst c26
                have H1 : (some 5) = some r := by rw [if_neg (show ¬ (false = true) by decide)] at H; exact H
                clear H
                have H := H1
                clear H1
                obtain rfl := Option.some.inj H
                have hcz28_0 : wc.cell? ⟨gb161, 0, none⟩ = some (.int .i64 a0_0) := (blk_cell BK161.out 0).trans rfl
                have hcz28_1 : wc.cell? ⟨gb161, 1, none⟩ = some (.int .i64 a0_1) := (blk_cell BK161.out 1).trans rfl
                have hcz28_2 : wc.cell? ⟨gb161, 2, none⟩ = some (.string a0_2) := (blk_cell BK161.out 2).trans rfl
                have hfz28_0 := blk_frozen BK161.out 0
                have hfz28_1 := blk_frozen BK161.out 1
                have hfz28_2 := blk_frozen BK161.out 2
                go_wp2_with (first | ((with_reducible refine gate_callee (f := 110) rfl ?_); refine goesL_ (some 47) rfl rfl Try.func110 (by kernel_rfl) rfl #[.int .i64 a0_1, .int .i64 0, .int .i64 x3_1] rfl (by (try simp only [List.map_toArray, List.map_cons, List.map_nil]); first | done | rfl | (simp only [List.length_drop, List.length_take]; rfl)) ?_; (with_reducible refine (impl_in.calls a0_1 0 x3_1 true _ A23.out).mono ?_); rintro e w' ⟨rfl, ⟨nd, rfl⟩⟩; refine ⟨_, rfl, ?_⟩) | ((with_reducible refine gate_callee (f := 165) rfl ?_); refine goesL_ (some 52) rfl rfl Try.func165 (by kernel_rfl) rfl #[.string a0_2] rfl (by (try simp only [List.map_toArray, List.map_cons, List.map_nil]); first | done | rfl | (simp only [List.length_drop, List.length_take]; rfl)) ?_; (with_reducible refine (impl_textOk.calls kj8 a0_2 false _ A25.out).mono ?_); rintro e w' ⟨rfl, ⟨nd, rfl⟩⟩; refine ⟨_, rfl, ?_⟩))
                go_ret
                exact ⟨by first | rfl | (simp [errW_none, errW_some] <;> rfl) | (simp [*, errW_none, errW_some] <;> rfl), by repeat (first | (with_reducible first | exact HB.out | apply below_alloc | apply pw_below_drewN | apply below_drew1 | refine below_set ?_ GE161.out) | exact HB.out)⟩
            · replace c24 := Bool.eq_false_iff.mpr c24
              subst c24
              have H1 : (some 3) = some r := by rw [if_neg (show ¬ (false = true) by decide)] at H; exact H
              clear H
              have H := H1
              clear H1
              obtain rfl := Option.some.inj H
              have hcz29_0 : wc.cell? ⟨gb161, 0, none⟩ = some (.int .i64 a0_0) := (blk_cell BK161.out 0).trans rfl
              have hcz29_1 : wc.cell? ⟨gb161, 1, none⟩ = some (.int .i64 a0_1) := (blk_cell BK161.out 1).trans rfl
              have hcz29_2 : wc.cell? ⟨gb161, 2, none⟩ = some (.string a0_2) := (blk_cell BK161.out 2).trans rfl
              have hfz29_0 := blk_frozen BK161.out 0
              have hfz29_1 := blk_frozen BK161.out 1
              have hfz29_2 := blk_frozen BK161.out 2
              go_wp2_with (first | ((with_reducible refine gate_callee (f := 110) rfl ?_); refine goesL_ (some 47) rfl rfl Try.func110 (by kernel_rfl) rfl #[.int .i64 a0_1, .int .i64 0, .int .i64 x3_1] rfl (by (try simp only [List.map_toArray, List.map_cons, List.map_nil]); first | done | rfl | (simp only [List.length_drop, List.length_take]; rfl)) ?_; (with_reducible refine (impl_in.calls a0_1 0 x3_1 false _ A23.out).mono ?_); rintro e w' ⟨rfl, ⟨nd, rfl⟩⟩; refine ⟨_, rfl, ?_⟩))
              go_ret
              exact ⟨by first | rfl | (simp [errW_none, errW_some] <;> rfl) | (simp [*, errW_none, errW_some] <;> rfl), by repeat (first | (with_reducible first | exact HB.out | apply below_alloc | apply pw_below_drewN | apply below_drew1 | refine below_set ?_ GE161.out) | exact HB.out)⟩

/-- A state of type 134 at block g of W; what its slices lead to came in by w0. -/
def IsS134 (w0 W : World) (g : Nat) (f0 : List (S129)) (f1 : Bool) (f2 : Bool) (f3 : Bool) : Prop := ∃ A0 c0, W.heap[g]? = some (.cells #[.slice A0 f0.length c0, .bool f1, .bool f2, .bool f3] 134 (0, 0)) ∧ w0.heap.size ≤ g ∧ Kd.C k129 w0 A0 f0.length f0
theorem IsS134.grown {w0 W : World} {g : Nat} {f0 : List (S129)} {f1 : Bool} {f2 : Bool} {f3 : Bool} {W1 : World} {row : Option Nat} (h : IsS134 w0 W g f0 f1 f2 f3) (hw : W.grownBy W1 row) (hne : some g ≠ row) : IsS134 w0 W1 g f0 f1 f2 f3 := by
  obtain ⟨A0, c0, hb, hg, hr0⟩ := h
  exact ⟨A0, c0, blk_grown hb hw hne, hg, hr0⟩
theorem IsS134.own_neN {w0 W : World} {g : Nat} {f0 : List (S129)} {f1 : Bool} {f2 : Bool} {f3 : Bool} {α : Type} {d : Kd α} {e : Nat} {base : Nat} {ok : Nat → Prop} {v : Value} {xs : List α} (h : IsS134 w0 W g f0 f1 f2 f3) (ho : Kd.N d e W base ok v xs) (ht : e ≠ 134) : some g ≠ v.ownBlock := by
  obtain ⟨A0, c0, hb, hg, hr0⟩ := h
  exact Kd.N_ne ho hb ht
theorem IsS134.fresh {w0 W : World} {g : Nat} {f0 : List (S129)} {f1 : Bool} {f2 : Bool} {f3 : Bool} (h : IsS134 w0 W g f0 f1 f2 f3) : ∀ k, W.heap.size ≤ k → k ≠ g := by
  obtain ⟨A0, c0, hb, hg, hr0⟩ := h
  exact Kd.freshB hb
theorem IsS134.kept {w0 W : World} {g : Nat} {f0 : List (S129)} {f1 : Bool} {f2 : Bool} {f3 : Bool} {W1 : World} {S : Nat → Prop} (h : IsS134 w0 W g f0 f1 f2 f3) (hk : Kept W W1 S) (hne : ¬ S g) : IsS134 w0 W1 g f0 f1 f2 f3 := by
  obtain ⟨A0, c0, hb, hg, hr0⟩ := h
  exact ⟨A0, c0, blk_kept hb hk hne, hg, hr0⟩
theorem IsS134.below {w0 W : World} {g : Nat} {f0 : List (S129)} {f1 : Bool} {f2 : Bool} {f3 : Bool} {W1 : World} (h : IsS134 w0 W g f0 f1 f2 f3) (hw : Below W.heap.size W W1) : IsS134 w0 W1 g f0 f1 f2 f3 := h.grown (grown_of_below hw none) (by simp)
theorem IsS134.alloc {w0 W : World} {g : Nat} {f0 : List (S129)} {f1 : Bool} {f2 : Bool} {f3 : Bool} (h : IsS134 w0 W g f0 f1 f2 f3) (o : Obj) : IsS134 w0 (W.alloc o) g f0 f1 f2 f3 := h.below (below_alloc (Below.refl _ _) o)
theorem IsS134.drewN {w0 W : World} {g : Nat} {f0 : List (S129)} {f1 : Bool} {f2 : Bool} {f3 : Bool} (h : IsS134 w0 W g f0 f1 f2 f3) (m : Nat) : IsS134 w0 (W.drewN m) g f0 f1 f2 f3 := h
theorem IsS134.drew {w0 W : World} {g : Nat} {f0 : List (S129)} {f1 : Bool} {f2 : Bool} {f3 : Bool} (h : IsS134 w0 W g f0 f1 f2 f3) : IsS134 w0 W.drew g f0 f1 f2 f3 := h
theorem IsS134.at_ {w0 W : World} {g : Nat} {f0 : List (S129)} {f1 : Bool} {f2 : Bool} {f3 : Bool} {w' : World} {m : Nat} (hq : W.drewN m = w') (h : IsS134 w0 W g f0 f1 f2 f3) : IsS134 w0 w' g f0 f1 f2 f3 := by subst hq; exact IsS134.drewN h m
theorem IsS134.apart {w0 W : World} {g : Nat} {f0 : List (S129)} {f1 : Bool} {f2 : Bool} {f3 : Bool} {α : Type} {d : Kd α} {e : Nat} {base : Nat} {ok : Nat → Prop} {v : Value} {xs : List α} (h : IsS134 w0 W g f0 f1 f2 f3) (ho : d.R e W base ok v xs) (ht : ∀ q, q ∈ e :: d.E → q ≠ 134) : d.R e W base (fun k => ok k ∧ k ≠ g) v xs := by
  obtain ⟨A0, c0, hb, hg, hr0⟩ := h
  exact Kd.R_types ho hb ht
theorem IsS134.own_ne {w0 W : World} {g : Nat} {f0 : List (S129)} {f1 : Bool} {f2 : Bool} {f3 : Bool} {α : Type} {d : Kd α} {e : Nat} {base : Nat} {ok : Nat → Prop} {v : Value} {xs : List α} (h : IsS134 w0 W g f0 f1 f2 f3) (ho : d.R e W base ok v xs) (ht : e ≠ 134) : some g ≠ v.ownBlock := by
  obtain ⟨A0, c0, hb, hg, hr0⟩ := h
  exact Kd.R_ne ho hb ht
theorem IsS134.apartQ {w0 W : World} {g : Nat} {f0 : List (S129)} {f1 : Bool} {f2 : Bool} {f3 : Bool} {α : Type} {d : Kd α} {e : Nat} {base : Nat} {ok : Nat → Prop} {v : Value} {xs : List α} (h : IsS134 w0 W g f0 f1 f2 f3) (ho : d.Q e W base ok v xs) (ht : ∀ q, q ∈ e :: d.E → q ≠ 134) : d.Q e W base (fun k => ok k ∧ k ≠ g) v xs := by
  obtain ⟨A0, c0, hb, hg, hr0⟩ := h
  exact Kd.Q_types ho hb ht
theorem IsS134.own_neQ {w0 W : World} {g : Nat} {f0 : List (S129)} {f1 : Bool} {f2 : Bool} {f3 : Bool} {α : Type} {d : Kd α} {e : Nat} {base : Nat} {ok : Nat → Prop} {v : Value} {xs : List α} (h : IsS134 w0 W g f0 f1 f2 f3) (ho : d.Q e W base ok v xs) (ht : e ≠ 134) : some g ≠ v.ownBlock := by
  obtain ⟨A0, c0, hb, hg, hr0⟩ := h
  exact Kd.Q_ne ho hb ht
theorem IsS134.apartS {w0 W : World} {g : Nat} {f0 : List (S129)} {f1 : Bool} {f2 : Bool} {f3 : Bool} {α : Type} {d : Kd α} {e : Nat} {base : Nat} {ok : Nat → Prop} {v : Value} {xs : List α} (h : IsS134 w0 W g f0 f1 f2 f3) (ho : d.S e W base ok v xs) (ht : ∀ q, q ∈ e :: d.E → q ≠ 134) : d.S e W base (fun k => ok k ∧ k ≠ g) v xs := by
  obtain ⟨A0, c0, hb, hg, hr0⟩ := h
  exact Kd.S_types ho hb ht
theorem IsS134.own_neS {w0 W : World} {g : Nat} {f0 : List (S129)} {f1 : Bool} {f2 : Bool} {f3 : Bool} {α : Type} {d : Kd α} {e : Nat} {base : Nat} {ok : Nat → Prop} {v : Value} {xs : List α} (h : IsS134 w0 W g f0 f1 f2 f3) (ho : d.S e W base ok v xs) (ht : e ≠ 134) : some g ≠ v.ownBlock := by
  obtain ⟨A0, c0, hb, hg, hr0⟩ := h
  exact Kd.S_ne ho hb ht
theorem IsS134.lt {w0 W : World} {g : Nat} {f0 : List (S129)} {f1 : Bool} {f2 : Bool} {f3 : Bool} (h : IsS134 w0 W g f0 f1 f2 f3) : g < W.heap.size := by
  obtain ⟨A0, c0, hb, hg, hr0⟩ := h
  exact blk_lt hb
theorem IsS134.ge {w0 W : World} {g : Nat} {f0 : List (S129)} {f1 : Bool} {f2 : Bool} {f3 : Bool} (h : IsS134 w0 W g f0 f1 f2 f3) : w0.heap.size ≤ g := by
  obtain ⟨A0, c0, hb, hg, hr0⟩ := h
  exact hg
theorem IsS134.ne_blk {w0 W : World} {g : Nat} {f0 : List (S129)} {f1 : Bool} {f2 : Bool} {f3 : Bool} {a : Nat} {cs : Array Value} {t : TypeId} {fr : Nat × Nat} (h : IsS134 w0 W g f0 f1 f2 f3) (hb2 : W.heap[a]? = some (.cells cs t fr)) (ht : t ≠ 134) : g ≠ a := by
  obtain ⟨A0, c0, hb, hg, hr0⟩ := h
  rintro rfl
  rw [hb] at hb2
  injection hb2 with hb2
  injection hb2 with _ ht2
  exact ht ht2.symm
theorem IsS134.far {w0 W : World} {g : Nat} {f0 : List (S129)} {f1 : Bool} {f2 : Bool} {f3 : Bool} {p : Addr} (h : IsS134 w0 W g f0 f1 f2 f3) (hne : g ≠ p.block) (u : Value) : IsS134 w0 (W.setCell p u) g f0 f1 f2 f3 := by
  obtain ⟨A0, c0, hb, hg, hr0⟩ := h
  exact ⟨A0, c0, blk_far hb hne u, hg, hr0⟩
theorem cellS134_0 {W : World} {g : Nat} {A0 : Option Addr} {c0 : Nat} {f0 : List (S129)} {f1 : Bool} {f2 : Bool} {f3 : Bool} (h : W.heap[g]? = some (.cells #[.slice A0 f0.length c0, .bool f1, .bool f2, .bool f3] 134 (0, 0))) : W.cell? ⟨g, 0, none⟩ = some (.slice A0 f0.length c0) := (blk_cell h 0).trans rfl
theorem cellS134_1 {W : World} {g : Nat} {A0 : Option Addr} {c0 : Nat} {f0 : List (S129)} {f1 : Bool} {f2 : Bool} {f3 : Bool} (h : W.heap[g]? = some (.cells #[.slice A0 f0.length c0, .bool f1, .bool f2, .bool f3] 134 (0, 0))) : W.cell? ⟨g, 1, none⟩ = some (.bool f1) := (blk_cell h 1).trans rfl
theorem IsS134.set_1 {w0 W : World} {g : Nat} {f0 : List (S129)} {f1 : Bool} {f2 : Bool} {f3 : Bool} (h : IsS134 w0 W g f0 f1 f2 f3) (x : Bool) : IsS134 w0 (W.setCell ⟨g, 1, none⟩ (.bool x)) g f0 x f2 f3 := by
  obtain ⟨A0, c0, hb, hg, hr0⟩ := h
  exact ⟨A0, c0, by simpa using blk_set hb 1 (.bool x), hg, hr0⟩
theorem cellS134_2 {W : World} {g : Nat} {A0 : Option Addr} {c0 : Nat} {f0 : List (S129)} {f1 : Bool} {f2 : Bool} {f3 : Bool} (h : W.heap[g]? = some (.cells #[.slice A0 f0.length c0, .bool f1, .bool f2, .bool f3] 134 (0, 0))) : W.cell? ⟨g, 2, none⟩ = some (.bool f2) := (blk_cell h 2).trans rfl
theorem IsS134.set_2 {w0 W : World} {g : Nat} {f0 : List (S129)} {f1 : Bool} {f2 : Bool} {f3 : Bool} (h : IsS134 w0 W g f0 f1 f2 f3) (x : Bool) : IsS134 w0 (W.setCell ⟨g, 2, none⟩ (.bool x)) g f0 f1 x f3 := by
  obtain ⟨A0, c0, hb, hg, hr0⟩ := h
  exact ⟨A0, c0, by simpa using blk_set hb 2 (.bool x), hg, hr0⟩
theorem cellS134_3 {W : World} {g : Nat} {A0 : Option Addr} {c0 : Nat} {f0 : List (S129)} {f1 : Bool} {f2 : Bool} {f3 : Bool} (h : W.heap[g]? = some (.cells #[.slice A0 f0.length c0, .bool f1, .bool f2, .bool f3] 134 (0, 0))) : W.cell? ⟨g, 3, none⟩ = some (.bool f3) := (blk_cell h 3).trans rfl
theorem IsS134.set_3 {w0 W : World} {g : Nat} {f0 : List (S129)} {f1 : Bool} {f2 : Bool} {f3 : Bool} (h : IsS134 w0 W g f0 f1 f2 f3) (x : Bool) : IsS134 w0 (W.setCell ⟨g, 3, none⟩ (.bool x)) g f0 f1 f2 x := by
  obtain ⟨A0, c0, hb, hg, hr0⟩ := h
  exact ⟨A0, c0, by simpa using blk_set hb 3 (.bool x), hg, hr0⟩
theorem IsS134.new (w0 W : World) (A0 : Option Addr) (c0 : Nat) (f0 : List (S129)) (f1 : Bool) (f2 : Bool) (f3 : Bool) (hB : Below w0.heap.size w0 W) (hr0 : Kd.C k129 w0 A0 f0.length f0) : IsS134 w0 (W.alloc (.cells #[.slice A0 f0.length c0, .bool f1, .bool f2, .bool f3] 134)) W.heap.size f0 f1 f2 f3 := ⟨A0, c0, by simpa using heap_alloc_new W _, hB.size, hr0⟩

/-! ### impl_structure_value: function 120 (by hand: a map of names) -/
mutual
/-- What (*structure).value answers: the place behind, and the three marks. -/
def valueV : Nat → List S129 → Bool → Bool → Bool → Int → Int → Option (Int × Bool × Bool × Bool)
  | 0, _, _, _, _, _, _ => none
  | k + 1, l, f, t, n, at_, d =>
    if 0 ≤ at_ ∧ at_ ≤ l.length ∧ 0 ≤ d ∧ d ≤ 1000000 ∧ l.length ≤ 1000000 then
      if f = true ∨ (l.length : Int) ≤ at_ then some (at_, true, t, n)
      else if (rd_T129 l at_).f0 = 5 ∨ (rd_T129 l at_).f0 = 6 then valueL k l (rd_T129 l at_) false t (n || decide (4 < d)) (at_ + 1) d [] 0
      else some (at_ + 1, false, t, n || decide (4 < d))
    else none
def valueL : Nat → List S129 → S129 → Bool → Bool → Bool → Int → Int → List ByteArray → Int → Option (Int × Bool × Bool × Bool)
  | 0, _, _, _, _, _, _, _, _, _ => none
  | k + 1, l, x, f, t, n, at_, d, names, i =>
    if 0 ≤ i ∧ i ≤ 1000000 ∧ names.length ≤ 1000000 then
      if i < x.f1 then
        if x.f0 = 6 then
          if 0 ≤ at_ ∧ at_ ≤ l.length then
            if f = true ∨ (l.length : Int) ≤ at_ then some (at_, true, t, n)
            else if (rd_T129 l at_).f0 = 4 then
              (valueV k l false (t || names.any fun y => y.data.toList == (rd_T129 l at_).f2.data.toList) (n || decide (4 < d + 1)) (at_ + 1) (d + 1)).bind fun r => valueL k l x r.2.1 r.2.2.1 r.2.2.2 r.1 d ((rd_T129 l at_).f2 :: names) (i + 1)
            else some (at_, true, t, n)
          else none
        else (valueV k l f t n at_ (d + 1)).bind fun r => valueL k l x r.2.1 r.2.2.1 r.2.2.2 r.1 d names (i + 1)
      else some (at_, f, t, n)
    else none
end
open Go.Proofs.Ytjgnjhbleiempaa.HNames in
/-- What holds in a round of the loop. -/
structure InvV (w0 w W : World) (g gv B : Nat) (A : Option Addr) (c : Nat) (l : List S129) (x : S129) (f t n : Bool) (names : List ByteArray) : Prop where
  bs : W.heap[g]? = some (.cells #[.slice A l.length c, .bool f, .bool t, .bool n] 134 (0, 0))
  nm : NamesAt W B names
  bx : W.heap[gv]? = some (.cells #[.int .i64 x.f0, .int .i64 x.f1, .string x.f2] 129 (0, 0))
  bl : Below w0.heap.size w0 W
  kp : KeepBut w W g none
  gw : w0.heap.size ≤ g
  nb : B ≠ g
  nv : gv ≠ g
  vb : gv ≠ B
  hB : w.heap.size ≤ B
  hw : w0.heap.size ≤ w.heap.size
  rd : Kd.C k129 w0 A l.length l
theorem InvV.set1 {w0 w W : World} {g gv B : Nat} {A : Option Addr} {c : Nat} {l : List S129} {x : S129} {f t n : Bool} {names : List ByteArray} (h : InvV w0 w W g gv B A c l x f t n names) (b : Bool) : InvV w0 w (W.setCell ⟨g, 1, none⟩ (.bool b)) g gv B A c l x b t n names :=
  ⟨blk_put h.bs 1 _ rfl, h.nm.heap (Below.heap_setCell W ⟨g, 1, none⟩ _ B h.nb), blk_far h.bx h.nv _, below_set h.bl h.gw, h.kp.set_ 1 _, h.gw, h.nb, h.nv, h.vb, h.hB, h.hw, h.rd⟩
theorem InvV.set2 {w0 w W : World} {g gv B : Nat} {A : Option Addr} {c : Nat} {l : List S129} {x : S129} {f t n : Bool} {names : List ByteArray} (h : InvV w0 w W g gv B A c l x f t n names) (b : Bool) : InvV w0 w (W.setCell ⟨g, 2, none⟩ (.bool b)) g gv B A c l x f b n names :=
  ⟨blk_put h.bs 2 _ rfl, h.nm.heap (Below.heap_setCell W ⟨g, 2, none⟩ _ B h.nb), blk_far h.bx h.nv _, below_set h.bl h.gw, h.kp.set_ 2 _, h.gw, h.nb, h.nv, h.vb, h.hB, h.hw, h.rd⟩
theorem InvV.set3 {w0 w W : World} {g gv B : Nat} {A : Option Addr} {c : Nat} {l : List S129} {x : S129} {f t n : Bool} {names : List ByteArray} (h : InvV w0 w W g gv B A c l x f t n names) (b : Bool) : InvV w0 w (W.setCell ⟨g, 3, none⟩ (.bool b)) g gv B A c l x f t b names :=
  ⟨blk_put h.bs 3 _ rfl, h.nm.heap (Below.heap_setCell W ⟨g, 3, none⟩ _ B h.nb), blk_far h.bx h.nv _, below_set h.bl h.gw, h.kp.set_ 3 _, h.gw, h.nb, h.nv, h.vb, h.hB, h.hw, h.rd⟩
theorem InvV.put {w0 w W W' : World} {g gv B : Nat} {A : Option Addr} {c : Nat} {l : List S129} {x : S129} {f t n : Bool} {names names' : List ByteArray} (h : InvV w0 w W g gv B A c l x f t n names) (hn : Go.Proofs.Ytjgnjhbleiempaa.HNames.NamesAt W' B names') (hg : W.grownBy W' (some B)) : InvV w0 w W' g gv B A c l x f t n names' :=
  ⟨blk_grown h.bs hg (fun e => h.nb (Option.some.inj e).symm), hn, blk_grown h.bx hg (fun e => h.vb (Option.some.inj e)), h.bl.grown hg (Nat.le_trans h.hw h.kp.1) (fun k hk => by cases hk; exact Nat.le_trans h.hw h.hB), h.kp.trans (KeepBut.of_grown hg g) (.inr ⟨B, rfl, h.hB⟩), h.gw, h.nb, h.nv, h.vb, h.hB, h.hw, h.rd⟩
theorem InvV.call {w0 w W W' : World} {g gv B : Nat} {A A' : Option Addr} {c c' : Nat} {l : List S129} {x : S129} {f t n f' t' n' : Bool} {names : List ByteArray} (h : InvV w0 w W g gv B A c l x f t n names) (hs : W'.heap[g]? = some (.cells #[.slice A' l.length c', .bool f', .bool t', .bool n'] 134 (0, 0))) (hr : Kd.C k129 w0 A' l.length l) (hb : Below w0.heap.size w0 W') (hk : KeepBut W W' g none) : InvV w0 w W' g gv B A' c' l x f' t' n' names :=
  ⟨hs, h.nm.heap (hk.2 B h.nm.lt h.nb (by simp)), hk.blk h.bx h.nv (by simp), hb, h.kp.trans hk (.inl rfl), h.gw, h.nb, h.nv, h.vb, h.hB, h.hw, hr⟩
theorem InvV.st {w0 w W : World} {g gv B : Nat} {A : Option Addr} {c : Nat} {l : List S129} {x : S129} {f t n : Bool} {names : List ByteArray} (h : InvV w0 w W g gv B A c l x f t n names) : IsS134 w0 W g l f t n := ⟨A, c, h.bs, h.gw, h.rd⟩
theorem InvV.el {w0 w W : World} {g gv B : Nat} {A : Option Addr} {c : Nat} {l : List S129} {x : S129} {f t n : Bool} {names : List ByteArray} (h : InvV w0 w W g gv B A c l x f t n names) {a : Addr} {v : Value} (hx : w0.cell? a = some v) : W.cell? a = some v := (h.bl.cell (World.block_lt_of_cell? w0 a hx)).trans hx
set_option maxHeartbeats 4000000 in
set_option maxRecDepth 100000 in
theorem valueV_calls : ∀ (k g : Nat) (l : List S129) (f t n : Bool) (at_ d : Int) (r1 : Int) (r2 r3 r4 : Bool) (w0 w : World), (∀ x ∈ l, x.f2.size ≤ maxLen) → IsS134 w0 w g l f t n → Below w0.heap.size w0 w → valueV k l f t n at_ d = some (r1, r2, r3, r4) →
    Calls Try.prog 120 #[.pointer (some ⟨g, 0, none⟩), .int .i64 at_, .int .i64 d] w fun e w' => e = .returned (.int .i64 r1) ∧ IsS134 w0 w' g l r2 r3 r4 ∧ Below w0.heap.size w0 w' ∧ KeepBut w w' g none := by
  have hu134 := Try.underlying134
  have hu129 := Try.underlying129
  intro k
  induction k using Nat.strongRecOn with
  | _ k ih =>
    intro g l f t n at_ d r1 r2 r3 r4 w0 w hsz hI hB h
    cases k with
    | zero => simp [valueV] at h
    | succ k =>
      unfold valueV at h
      by_cases hG : 0 ≤ at_ ∧ at_ ≤ l.length ∧ 0 ≤ d ∧ d ≤ 1000000 ∧ l.length ≤ 1000000
      · rw [if_pos hG] at h
        obtain ⟨A, c, hb, hg, hr⟩ := hI
        have HR := Aside0.mk hr
        have HBX := Aside0.mk hb
        have HB := Aside0.mk hB
        have HG := Aside0.mk hg
        have HGG := Aside0.mk hG
        have hc0 : w.cell? ⟨g, 0, none⟩ = some (.slice A l.length c) := (blk_cell hb 0).trans rfl
        have hc1 : w.cell? ⟨g, 1, none⟩ = some (.bool f) := (blk_cell hb 1).trans rfl
        have hf1 := blk_frozen hb 1
        clear hr hb hB hg
        by_cases hE : f = true ∨ (l.length : Int) ≤ at_
        · rw [if_pos hE] at h
          simp only [Option.some.injEq, Prod.mk.injEq] at h
          obtain ⟨rfl, rfl, rfl, rfl⟩ := h
          cases f with
          | true =>
            clear hE
            go_enter Try.func120, Try.ntmps120
            go_wp2
            go_ret
            exact ⟨rfl, ⟨A, c, blk_put HBX.out 1 _ rfl, HG.out, HR.out⟩, below_set HB.out HG.out, (KeepBut.refl w g none).set_ 1 _⟩
          | false =>
            have hat : (l.length : Int) ≤ at_ := hE.resolve_left (by decide)
            have hatb : decide ((l.length : Int) ≤ at_) = true := decide_eq_true hat
            clear hE
            go_enter Try.func120, Try.ntmps120
            go_wp2
            go_ret
            exact ⟨rfl, ⟨A, c, blk_put HBX.out 1 _ rfl, HG.out, HR.out⟩, below_set HB.out HG.out, (KeepBut.refl w g none).set_ 1 _⟩
        · rw [if_neg hE] at h
          have hfF : f = false := by cases f with | false => rfl | true => exact absurd (.inl rfl) hE
          subst hfF
          have hlt : at_ < (l.length : Int) := by rcases Int.lt_or_le at_ l.length with h1 | h1; · exact h1
                                                  · exact absurd (.inr h1) hE
          have hatb : decide ((l.length : Int) ≤ at_) = false := decide_eq_false (by omega)
          clear hE
          have h00 := HGG.out.1
          obtain ⟨ad, e, hx0, hx1, hx2⟩ := at_T129 HR.out at_ h00 hlt
          cases e
          obtain ⟨x, hxd⟩ : ∃ x, rd_T129 l at_ = x := ⟨_, rfl⟩
          rw [hxd] at h hx0 hx1 hx2
          have HXD := Aside0.mk hxd
          clear hxd
          have hna : (ad.add (at_.toNat * 3)).block ≠ g := Nat.ne_of_lt (Nat.lt_of_lt_of_le (World.block_lt_of_cell? w0 _ hx0) HG.out)
          have hna' : ad.block ≠ g := by have := hna; rwa [add_block] at this
          have HX0 := Aside0.mk hx0
          have HX1 := Aside0.mk hx1
          have HX2 := Aside0.mk hx2
          clear hx0 hx1 hx2 hna hna'
          have hc3 : w.cell? ⟨g, 3, none⟩ = some (.bool n) := (blk_cell HBX.out 3).trans rfl
          have hf3 := blk_frozen HBX.out 3
          have p5 := eq_true h00
          have q5 := eq_true hlt
          have hmm := @run_makeMap Try.prog
          have hw1 : wrap64 (at_ + 1) = at_ + 1 := by have := HGG.out; unfold wrap64; omega
          go_enter Try.func120, Try.ntmps120
          go_upto_region 4 with fail
          go_cut [] (fun wc => wc = (w.setCell ⟨g, 1, none⟩ (.bool false)).setCell ⟨g, 3, none⟩ (.bool (n || decide (4 < d))))
          case first =>
            cases n with
            | true => go_wp2; go_meet; rfl
            | false => go_wp2; go_meet; rfl
          case rest =>
            have BSc := Aside0.mk (show wc.heap[g]? = some (.cells #[.slice (some ad) l.length c, .bool false, .bool t, .bool (n || decide (4 < d))] 134 (0, 0)) by rw [hcut]; exact blk_put (cs := #[.slice (some ad) l.length c, .bool false, .bool t, .bool n]) (blk_put HBX.out 1 _ rfl) 3 _ rfl)
            have BLc := Aside0.mk (show Below w0.heap.size w0 wc by rw [hcut]; exact below_set (below_set HB.out HG.out) HG.out)
            have KPc := Aside0.mk (show KeepBut w wc g none by rw [hcut]; exact ((KeepBut.refl w g none).set_ 1 _).set_ 3 _)
            clear hcut hc0 hc1 hf1 hc3 hf3
            have hc0 : wc.cell? ⟨g, 0, none⟩ = some (.slice (some ad) l.length c) := (blk_cell BSc.out 0).trans rfl
            have hx0 := (BLc.out.cell (World.block_lt_of_cell? w0 _ HX0.out)).trans HX0.out
            have hx1 := (BLc.out.cell (World.block_lt_of_cell? w0 _ HX1.out)).trans HX1.out
            have hx2 := (BLc.out.cell (World.block_lt_of_cell? w0 _ HX2.out)).trans HX2.out
            go_upto_region 7 with (first | ((with_reducible refine gate_dst (N := 7) rfl ?_); refine box_event ?hg (N := 7) ?hd (cs := #[.int .i64 0, .int .i64 0, .string ⟨#[]⟩]) (t := 129) ?hr ?_; (case hd => rfl); (case hg => rfl); (case hr => first | (go_simp; done) | (go_simp; rfl)); intro gv hgv w5 hbox hb; have HV5 := Aside0.mk hbox; have HB5 := Aside0.mk hb; have HGV := Aside0.mk hgv; have hz0 : w5.cell? ⟨gv, 0, none⟩ = some (.int .i64 0) := (blk_cell hbox 0).trans rfl; have hz1 : w5.cell? ⟨gv, 1, none⟩ = some (.int .i64 0) := (blk_cell hbox 1).trans rfl; have hz2 : w5.cell? ⟨gv, 2, none⟩ = some (.string ⟨#[]⟩) := (blk_cell hbox 2).trans rfl; have hzf0 := blk_frozen hbox 0; have hzf1 := blk_frozen hbox 1; have hzf2 := blk_frozen hbox 2; clear hbox hb hgv))
            have hgt : wc.heap.size < gv := by rw [HGV.out]; simp
            have hgw : g < wc.heap.size := blk_lt BSc.out
            have hnv : gv ≠ g := by omega
            have hnb : wc.heap.size ≠ g := by omega
            have hvb : wc.heap.size ≠ gv := by omega
            have hgw0 : w0.heap.size ≤ gv := Nat.le_trans HB.out.size (Nat.le_trans KPc.out.1 (Nat.le_of_lt hgt))
            have hN5 : Go.Proofs.Ytjgnjhbleiempaa.HNames.NamesAt w5 wc.heap.size [] := (Go.Proofs.Ytjgnjhbleiempaa.HNames.NamesAt.made wc).heap (HB5.out.block _ (by simp))
            have hB5g := blk_below (g := g) (blk_alloc BSc.out (.map #[] 0)) HB5.out
            have hL5 : Below w0.heap.size w0 w5 := below_step (below_alloc BLc.out _) HB5.out
            have hK5 : KeepBut w w5 g none := (keep_alloc KPc.out _).trans (KeepBut.of_below HB5.out g none) (.inl rfl)
            have hwg : w.heap.size ≤ gv := Nat.le_trans KPc.out.1 (Nat.le_of_lt hgt)
            have HI := Aside0.mk (show InvV w0 w (((w5.setCell ⟨gv, 0, none⟩ (.int .i64 x.f0)).setCell ⟨gv, 1, none⟩ (.int .i64 x.f1)).setCell ⟨gv, 2, none⟩ (.string x.f2)) g gv wc.heap.size (some ad) c l x false t (n || decide (4 < d)) [] from
              ⟨blk_far (blk_far (blk_far hB5g hnv.symm _) hnv.symm _) hnv.symm _, ((hN5.heap (Below.heap_setCell _ ⟨gv, 0, none⟩ _ _ hvb)).heap (Below.heap_setCell _ ⟨gv, 1, none⟩ _ _ hvb)).heap (Below.heap_setCell _ ⟨gv, 2, none⟩ _ _ hvb), blk_put (cs := #[.int .i64 x.f0, .int .i64 x.f1, .string ⟨#[]⟩]) (blk_put (cs := #[.int .i64 x.f0, .int .i64 0, .string ⟨#[]⟩]) (blk_put HV5.out 0 _ rfl) 1 _ rfl) 2 _ rfl, below_set (below_set (below_set hL5 hgw0) hgw0) hgw0, keep_far (keep_far (keep_far hK5 hwg _) hwg _) hwg _, HG.out, hnb, hnv, hvb.symm, KPc.out.1, HB.out.size, HR.out⟩)
            clear hgt hgw hnv hnb hvb hgw0 hN5 hB5g hL5 hK5 hwg
            generalize wc.heap.size = Bm at HI ⊢
            go_cut [58] (fun v58 wd => ∃ b, v58 = .bool b ∧ Aside0 (b = decide (¬ (x.f0 = 5 ∨ x.f0 = 6))) ∧ Aside0 (InvV w0 w wd g gv Bm (some ad) c l x false t (n || decide (4 < d)) []))
            case first =>
              by_cases k5 : x.f0 = 5
              · have k5b : (x.f0 != 5) = false := bne_eq_false_iff_eq.2 k5
                have k5c : (x.f0 == 5) = true := beq_iff_eq.2 k5
                have e : decide (¬ (x.f0 = 5 ∨ x.f0 = 6)) = false := decide_eq_false (by simp [k5])
                clear k5
                go_wp2
                go_meet
                exact ⟨false, rfl, ⟨e.symm⟩, HI⟩
              · have k5b : (x.f0 != 5) = true := bne_iff_ne.2 k5
                have k5c : (x.f0 == 5) = false := beq_eq_false_iff_ne.2 k5
                by_cases k6 : x.f0 = 6
                · have k6b : (x.f0 != 6) = false := bne_eq_false_iff_eq.2 k6
                  have k6c : (x.f0 == 6) = true := beq_iff_eq.2 k6
                  have e : decide (¬ (x.f0 = 5 ∨ x.f0 = 6)) = false := decide_eq_false (by simp [k6])
                  clear k5 k6
                  go_wp2
                  go_meet
                  exact ⟨false, rfl, ⟨e.symm⟩, HI⟩
                · have k6b : (x.f0 != 6) = true := bne_iff_ne.2 k6
                  have k6c : (x.f0 == 6) = false := beq_eq_false_iff_ne.2 k6
                  have e : decide (¬ (x.f0 = 5 ∨ x.f0 = 6)) = true := decide_eq_true (by simp [k5, k6])
                  clear k5 k6
                  go_wp2
                  go_meet
                  exact ⟨true, rfl, ⟨e.symm⟩, HI⟩
            case rest =>
              clear HI
              obtain ⟨b, rfl, hb, HI⟩ := hcut
              by_cases hk : x.f0 = 5 ∨ x.f0 = 6
              · rw [if_pos hk] at h
                have hb' := hb.out
                rw [decide_eq_false (fun h_ => h_ hk)] at hb'
                subst hb'
                have HEV := Aside0.mk h
                have HK := Aside0.mk hk
                clear h hb hk
                have hq1 : wc.cell? ⟨gv, 1, none⟩ = some (.int .i64 x.f1) := (blk_cell HI.out.bx 1).trans rfl
                go_wp2
                go_loopg [1, 62] k (fun kq v1 v62 w' => ∃ (a i : Int) (f' t' n' : Bool) (names : List ByteArray) (A' : Option Addr) (c' : Nat), v1 = .int .i64 a ∧ v62 = .int .i64 i ∧ Aside0 (valueL kq l x f' t' n' a d names i = some (r1, r2, r3, r4)) ∧ Aside0 (kq ≤ k) ∧ Aside0 (InvV w0 w w' g gv Bm A' c' l x f' t' n' names))
                case atStart => exact ⟨at_ + 1, 0, false, t, _, [], _, _, (by first | rfl | (simp [hw1]; done)), rfl, HEV, ⟨Nat.le_refl _⟩, HI⟩
                case round =>
                  clear HI HEV
                  obtain ⟨a, i, f', t', n', names, A', c', rfl, rfl, HA, HK1, HI⟩ := hrel
                  cases gk with
                  | zero => exact absurd HA.out (by simp [valueL])
                  | succ k1 =>
                    have h := HA.out
                    clear HA
                    unfold valueL at h
                    by_cases hG2 : 0 ≤ i ∧ i ≤ 1000000 ∧ names.length ≤ 1000000
                    · rw [if_pos hG2] at h
                      have HG2 := Aside0.mk hG2
                      clear hG2
                      have hq0 : wr.cell? ⟨gv, 0, none⟩ = some (.int .i64 x.f0) := (blk_cell HI.out.bx 0).trans rfl
                      have hwi : wrap64 (i + 1) = i + 1 := by have := HG2.out; unfold wrap64; omega
                      have hwd : wrap64 (d + 1) = d + 1 := by have := HGG.out; unfold wrap64; omega
                      by_cases hi : i < x.f1
                      · rw [if_pos hi] at h
                        have hib : decide (i < x.f1) = true := decide_eq_true hi
                        by_cases h6 : x.f0 = 6
                        · rw [if_pos h6] at h
                          have h6b : (x.f0 == 6) = true := beq_iff_eq.2 h6
                          clear h6 hi
                          by_cases hG3 : 0 ≤ a ∧ a ≤ l.length
                          · rw [if_pos hG3] at h
                            have HG3 := Aside0.mk hG3
                            clear hG3
                            have hc0 : wr.cell? ⟨g, 0, none⟩ = some (.slice A' l.length c') := (blk_cell HI.out.bs 0).trans rfl
                            have hc1 : wr.cell? ⟨g, 1, none⟩ = some (.bool f') := (blk_cell HI.out.bs 1).trans rfl
                            have hf1 := blk_frozen HI.out.bs 1
                            by_cases hE2 : f' = true ∨ (l.length : Int) ≤ a
                            · rw [if_pos hE2] at h
                              simp only [Option.some.injEq, Prod.mk.injEq] at h
                              obtain ⟨rfl, rfl, rfl, rfl⟩ := h
                              cases f' with
                              | true =>
                                clear hE2
                                go_wp2
                                go_ret
                                exact ⟨rfl, (HI.out.set1 true).st, (HI.out.set1 true).bl, (HI.out.set1 true).kp⟩
                              | false =>
                                have hatb2 : decide ((l.length : Int) ≤ a) = true := decide_eq_true (hE2.resolve_left (by decide))
                                clear hE2
                                go_wp2
                                go_ret
                                exact ⟨rfl, (HI.out.set1 true).st, (HI.out.set1 true).bl, (HI.out.set1 true).kp⟩
                            · rw [if_neg hE2] at h
                              have hfF : f' = false := by cases f' with | false => rfl | true => exact absurd (.inl rfl) hE2
                              subst hfF
                              have hlt2 : a < (l.length : Int) := by
                                rcases Int.lt_or_le a l.length with h1 | h1
                                · exact h1
                                · exact absurd (.inr h1) hE2
                              have hatb2 : decide ((l.length : Int) ≤ a) = false := decide_eq_false (by omega)
                              clear hE2
                              have h02 := HG3.out.1
                              obtain ⟨ad2, e, hy0, hy1, hy2⟩ := at_T129 HI.out.rd a h02 hlt2
                              cases e
                              have hys : (rd_T129 l a).f2.size ≤ maxLen := by
                                unfold rd_T129
                                rw [List.getD_eq_getElem?_getD, List.getElem?_eq_getElem (by omega)]
                                exact hsz _ (List.getElem_mem _)
                              generalize rd_T129 l a = y at h hy0 hy1 hy2 hys
                              have HY0 := Aside0.mk hy0
                              have HY2 := Aside0.mk hy2
                              clear hy1 hy2
                              replace hy0 := HI.out.el hy0
                              have p6 := eq_true h02
                              have q6 := eq_true hlt2
                              have hwa : wrap64 (a + 1) = a + 1 := by have := HG3.out; have := HGG.out; unfold wrap64; omega
                              by_cases h4 : y.f0 = 4
                              · rw [if_pos h4] at h
                                have h4b : (y.f0 != 4) = false := bne_eq_false_iff_eq.2 h4
                                have h4c : (y.f0 == 4) = true := beq_iff_eq.2 h4
                                clear h4
                                obtain ⟨⟨s1, s2, s3, s4⟩, hv, h⟩ := Option.bind_eq_some_iff.mp h
                                have HV := Aside0.mk hv
                                have HE2 := Aside0.mk h
                                clear hv h
                                have hc3 : wr.cell? ⟨g, 3, none⟩ = some (.bool n') := (blk_cell HI.out.bs 3).trans rfl
                                have hf3 := blk_frozen HI.out.bs 3
                                go_upto_region 15 with fail
                                go_cut [] (fun wd => Aside0 (InvV w0 w wd g gv Bm (some ad2) c' l x false t' (n' || decide (4 < d + 1)) names))
                                case first =>
                                  cases n' with
                                  | true => go_wp2; go_meet; exact ⟨(HI.out.set1 false).set3 true⟩
                                  | false => go_wp2; go_meet; exact ⟨(HI.out.set1 false).set3 _⟩
                                case rest =>
                                  clear HI hy0 hc0 hc1 hf1 hc3 hf3 hq0 hq1
                                  have HI := hcut
                                  clear hcut
                                  have hc0 : wc.cell? ⟨g, 0, none⟩ = some (.slice (some ad2) l.length c') := (blk_cell HI.out.bs 0).trans rfl
                                  have hc2 : wc.cell? ⟨g, 2, none⟩ = some (.bool t') := (blk_cell HI.out.bs 2).trans rfl
                                  have hf2 := blk_frozen HI.out.bs 2
                                  have hy2 := HI.out.el HY2.out
                                  have hlk := HI.out.nm.look Try.underlying169 y.f2 hys
                                  generalize (names.any fun z => z.data.toList == y.f2.data.toList) = seen at hlk HV
                                  go_upto_region 16 with fail
                                  go_cut [] (fun wd => Aside0 (InvV w0 w wd g gv Bm (some ad2) c' l x false (t' || seen) (n' || decide (4 < d + 1)) names))
                                  case first =>
                                    cases t' with
                                    | true => go_wp2; go_meet; exact ⟨HI.out.set2 true⟩
                                    | false => go_wp2; go_meet; exact ⟨HI.out.set2 _⟩
                                  case rest =>
                                    clear HI hc0 hc2 hf2 hy2 hlk
                                    have HI := hcut
                                    clear hcut
                                    have hc0 : wc.cell? ⟨g, 0, none⟩ = some (.slice (some ad2) l.length c') := (blk_cell HI.out.bs 0).trans rfl
                                    have hy2 := HI.out.el HY2.out
                                    go_wp2_with (first | (at_mapUpdate; refine Go.Proofs.Ytjgnjhbleiempaa.HNames.wpList_names rfl _ _ _ 169 rfl Try.underlying169 Bm names rfl HI.out.nm (by have := HG2.out; unfold maxLen; omega) y.f2 hys rfl rfl ?_; intro w7 hn7 hg7; have HI7 := Aside0.mk (HI.out.put hn7 hg7); clear hn7 hg7) | (go_at_call 120; refine (ih k1 (by have := HK1.out; omega) g l false _ _ (a + 1) (d + 1) s1 s2 s3 s4 w0 _ hsz HI7.out.st HI7.out.bl HV.out).mono ?_; rintro e w8 ⟨rfl, ⟨A8, c8, hb8, _, hr8⟩, hbl8, hk8⟩; have HI8 := Aside0.mk (HI7.out.call hb8 hr8 hbl8 hk8); clear hb8 hbl8 hk8 hr8))
                                    go_roundg k1
                                    case measure => omega
                                    case rel => exact ⟨s1, i + 1, s2, s3, s4, y.f2 :: names, A8, c8, rfl, (by first | rfl | (simp [hwi]; done)), HE2, ⟨by have := HK1.out; omega⟩, HI8⟩
                              · rw [if_neg h4] at h
                                have h4b : (y.f0 != 4) = true := bne_iff_ne.2 h4
                                have h4c : (y.f0 == 4) = false := beq_eq_false_iff_ne.2 h4
                                clear h4
                                simp only [Option.some.injEq, Prod.mk.injEq] at h
                                obtain ⟨rfl, rfl, rfl, rfl⟩ := h
                                go_wp2
                                go_ret
                                exact ⟨rfl, (HI.out.set1 true).st, (HI.out.set1 true).bl, (HI.out.set1 true).kp⟩
                          · rw [if_neg hG3] at h; cases h
                        · rw [if_neg h6] at h
                          have h6b : (x.f0 == 6) = false := beq_eq_false_iff_ne.2 h6
                          clear h6 hi
                          obtain ⟨⟨s1, s2, s3, s4⟩, hv, h⟩ := Option.bind_eq_some_iff.mp h
                          have HV := Aside0.mk hv
                          have HE2 := Aside0.mk h
                          clear hv h
                          go_wp2_with (first | (go_at_call 120; refine (ih k1 (by have := HK1.out; omega) g l f' t' n' a (d + 1) s1 s2 s3 s4 w0 _ hsz HI.out.st HI.out.bl HV.out).mono ?_; rintro e w8 ⟨rfl, ⟨A8, c8, hb8, _, hr8⟩, hbl8, hk8⟩; have HI8 := Aside0.mk (HI.out.call hb8 hr8 hbl8 hk8); clear hb8 hbl8 hk8 hr8))
                          go_roundg k1
                          case measure => omega
                          case rel => exact ⟨s1, i + 1, s2, s3, s4, names, A8, c8, rfl, (by first | rfl | (simp [hwi]; done)), HE2, ⟨by have := HK1.out; omega⟩, HI8⟩
                      · rw [if_neg hi] at h
                        have hib : decide (i < x.f1) = false := decide_eq_false hi
                        simp only [Option.some.injEq, Prod.mk.injEq] at h
                        obtain ⟨rfl, rfl, rfl, rfl⟩ := h
                        clear hi
                        go_wp2
                        go_ret
                        exact ⟨rfl, HI.out.st, HI.out.bl, HI.out.kp⟩
                    · rw [if_neg hG2] at h; cases h
              · rw [if_neg hk] at h
                have hb' := hb.out
                rw [decide_eq_true hk] at hb'
                subst hb'
                simp only [Option.some.injEq, Prod.mk.injEq] at h
                obtain ⟨rfl, rfl, rfl, rfl⟩ := h
                clear hb hk
                go_wp2
                go_ret
                exact ⟨by first | rfl | (simp [hw1]; done), HI.out.st, HI.out.bl, HI.out.kp⟩
      · rw [if_neg hG] at h; cases h
/-- More rounds than there are values are never needed. -/
def impl_structure_value.f (s0_0 : List S129) (s0_1 : Bool) (s0_2 : Bool) (s0_3 : Bool) (a1 : Int) (a2 : Int) : Option (Int × Bool × Bool × Bool) := if (∀ x ∈ s0_0, x.f2.size ≤ maxLen) then valueV 100000 s0_0 s0_1 s0_2 s0_3 a1 a2 else none
theorem impl_structure_value.calls (g : Nat) (s0_0 : List S129) (s0_1 : Bool) (s0_2 : Bool) (s0_3 : Bool) (a1 : Int) (a2 : Int) (r1 : Int) (r2 : Bool) (r3 : Bool) (r4 : Bool) (w0 w : World) (hI : IsS134 w0 w g s0_0 s0_1 s0_2 s0_3) (hB : Below w0.heap.size w0 w) (h : impl_structure_value.f s0_0 s0_1 s0_2 s0_3 a1 a2 = some (r1, r2, r3, r4)) :
    Calls Try.prog 120 #[.pointer (some ⟨g, 0, none⟩), .int .i64 a1, .int .i64 a2] w fun e w' => e = .returned (.int .i64 r1) ∧ IsS134 w0 w' g s0_0 r2 r3 r4 ∧ Below w0.heap.size w0 w' ∧ KeepBut w w' g none := by
  unfold impl_structure_value.f at h
  by_cases hs : ∀ x ∈ s0_0, x.f2.size ≤ maxLen
  · rw [if_pos hs] at h
    exact valueV_calls 100000 g s0_0 s0_1 s0_2 s0_3 a1 a2 r1 r2 r3 r4 w0 w hs hI hB h
  · rw [if_neg hs] at h; cases h

end Go.Proofs.Ytjgnjhbleiempaa.QFnExactValsFault
