-- written by this session's program (wip/tools/myprint.py)
import Derived.Test.YtjgnjhbleiempaaQFnExactMapEntryx0
import Derived.Test.YtjgnjhbleiempaaQFnExactMapEntryx1
namespace Go.Proofs.Ytjgnjhbleiempaa.QFnExactMapEntry
open Go.RowKit Go.Proofs.YtjgnjhbleiempaaW.PrintWords Go.Proofs.YtjgnjhbleiempaaW.PrintLast Go.Proofs.YtjgnjhbleiempaaW.PrintMore
attribute [local go_sem] max2_int min2_int max_two min_two max_three min_three max_four min_four   -- for this text's walks alone
set_option linter.unusedVariables false
set_option linter.unusedSimpArgs false

/-! ### spec_l8Num_in: function 200 -/
def spec_l8Num_in.j0 : Nat → List (S129) → Int → Bool → Option (Bool)
  | 0, _, _, _ => none
  | k + 1, x0, x6, x7 => if x7 = true then (if 0 < (x0.length : Int) then (some (((rd_T129 x0 0).f1) == 0)) else (none)) else (if x6 = 2 then (if 0 < (x0.length : Int) then ((spec_l1In.f ((rd_T129 x0 0).f1) 0 1).bind fun t123 => (some t123)) else (none)) else (if x6 = 3 then (if 0 < (x0.length : Int) then ((spec_l1In.f ((rd_T129 x0 0).f1) 0 2147483646).bind fun t125 => (some t125)) else (none)) else (if 0 < (x0.length : Int) then ((spec_l1In.f ((rd_T129 x0 0).f1) 0 20).bind fun t127 => (some t127)) else (none))))
def spec_l8Num_in.f (k : Nat) (l0 : List (S129)) : Option (Bool) := if 0 < (l0.length : Int) then (if ((rd_T129 l0 0).f0) = 1 then (spec_l8Num_in.j0 k l0 ((rd_T129 l0 0).f0) (((rd_T129 l0 0).f0) == 1)) else (spec_l8Num_in.j0 k l0 ((rd_T129 l0 0).f0) (((rd_T129 l0 0).f0) == 4))) else (none)
theorem spec_l8Num_in.mono_l : ∀ k, (∀ y0 y1 y2, LeO (spec_l8Num_in.j0 k y0 y1 y2) (spec_l8Num_in.j0 (k + 1) y0 y1 y2))
  | 0 => fun _ _ _ r h => by simp [spec_l8Num_in.j0] at h
  | k + 1 => by
    have ih0 := spec_l8Num_in.mono_l k
    · intro y0 y1 y2
      unfold spec_l8Num_in.j0
      repeat' first
      | (with_reducible exact ih0 _ _ _)
      | (with_reducible exact LeO.refl _)
      | (with_reducible exact LeO.none _)
      | (with_reducible refine LeO.ite ?_ ?_)
      | (with_reducible refine LeO.bind ?_ (fun _ => ?_))
      | exact ih0 _ _ _
      | exact LeO.none _
      | refine LeO.ite ?_ ?_
      | refine LeO.bind ?_ (fun _ => ?_)
theorem spec_l8Num_in.mono : ∀ a0 k, LeO (spec_l8Num_in.f k a0) (spec_l8Num_in.f (k + 1) a0) := by
  intro a0 k
  have ih0 := spec_l8Num_in.mono_l k
  unfold spec_l8Num_in.f
  repeat' first
      | (with_reducible exact ih0 _ _ _)
      | (with_reducible exact LeO.refl _)
      | (with_reducible exact LeO.none _)
      | (with_reducible refine LeO.ite ?_ ?_)
      | (with_reducible refine LeO.bind ?_ (fun _ => ?_))
      | exact ih0 _ _ _
      | exact LeO.none _
      | refine LeO.ite ?_ ?_
      | refine LeO.bind ?_ (fun _ => ?_)
set_option maxHeartbeats 8000000 in
set_option maxRecDepth 100000 in
theorem spec_l8Num_in.calls (k : Nat) (A0 : Option Addr) (c0 : Nat) (l0 : List (S129)) (r : Bool) (w : World) (hr0 : Kd.C k129 w A0 l0.length l0) (hc0 : l0.length ≤ c0) (h : spec_l8Num_in.f k l0 = some r) :
    Calls Try.prog 180 #[.pointer A0] w fun e w' => e = .returned (.bool r) ∧ Below w.heap.size w w' := by
  have HR0 := Aside0.mk hr0
  have HC0 := Aside0.mk hc0
  clear hr0 hc0
  have HB := Aside0.mk (Below.refl w.heap.size w)
  have H : (if 0 < (l0.length : Int) then (if ((rd_T129 l0 0).f0) = 1 then (spec_l8Num_in.j0 k l0 ((rd_T129 l0 0).f0) (((rd_T129 l0 0).f0) == 1)) else (spec_l8Num_in.j0 k l0 ((rd_T129 l0 0).f0) (((rd_T129 l0 0).f0) == 4))) else (none)) = some r := h
  clear h
  by_cases c2 : 0 < (l0.length : Int)
  · rw [if_pos c2] at H
    have c2b0 : decide (0 < (l0.length : Int)) = true := decide_eq_true c2
    have c2b1 : decide (0 < l0.length) = true := decide_eq_true (by omega)
    clear c2
    have HC3 := Aside0.mk H
    clear H
    have p120 : 0 ≤ (0 : Int) := (by omega)
    have q120 : 0 < (l0.length : Int) := of_decide_eq_true (by first | (with_reducible assumption) | assumption)
    obtain ⟨ad120, e120, hx120_0, hx120_1, hx120_2⟩ := at_T129 HR0.out 0 p120 q120
    cases e120
    have qi120 : (0 < l0.length) = True := eq_true (by omega)
    (try rw [show ((0 : Int)).toNat = 0 from rfl] at hx120_0)
    (try rw [show 0 * 3 = 0 from rfl] at hx120_0)
    (try rw [Addr.add_zero'] at hx120_0)
    (try rw [show ((0 : Int)).toNat = 0 from rfl] at hx120_1)
    (try rw [show 0 * 3 = 0 from rfl] at hx120_1)
    (try rw [Addr.add_zero'] at hx120_1)
    (try rw [show ((0 : Int)).toNat = 0 from rfl] at hx120_2)
    (try rw [show 0 * 3 = 0 from rfl] at hx120_2)
    (try rw [Addr.add_zero'] at hx120_2)
    replace p120 := eq_true p120
    replace q120 := eq_true q120
    go_enter Try.func180, Try.ntmps180
    go_upto_if 7 with (fail)
    go_cut [7] (fun v7 wc => ∃ (kq : Nat) (x7_2 : Bool), v7 = .bool x7_2 ∧ Aside0 (spec_l8Num_in.j0 kq l0 ((rd_T129 l0 0).f0) x7_2 = some r) ∧ Aside0 (kq ≤ k) ∧ Aside0 (Below w.heap.size w wc))
    case first =>
      have H := HC3.out
      clear HC3
      by_cases c4 : ((rd_T129 l0 0).f0) = 1
      · rw [if_pos c4] at H
        have c4b0 : (((rd_T129 l0 0).f0) == 1) = true := beq_iff_eq.mpr c4
        have c4b1 : (((rd_T129 l0 0).f0) != 1) = false := bne_eq_false_iff_eq.mpr c4
        clear c4
        (first | rw [c4b0] | (simp only [i64_w, i32_w]; rw [c4b0]) | skip)
        have H' := Aside0.mk H
        clear H
        go_wp2
        go_meet
        case rel => exact ⟨_, ((((rd_T129 l0 0).f0) == 1)), (by first | rfl | (simp; done) | (simp [*]; done)), H', ⟨by first | omega | exact Nat.le_refl _⟩, ⟨by repeat (first | (with_reducible first | exact HB.out | apply below_alloc | apply pw_below_drewN | apply below_drew1) | exact HB.out)⟩⟩
      · rw [if_neg c4] at H
        have c4b0 : (((rd_T129 l0 0).f0) == 1) = false := beq_eq_false_iff_ne.mpr c4
        have c4b1 : (((rd_T129 l0 0).f0) != 1) = true := bne_iff_ne.mpr c4
        (first | rw [c4b0] | (simp only [i64_w, i32_w]; rw [c4b0]) | skip)
        have H' := Aside0.mk H
        clear H
        go_wp2
        go_meet
        case rel => exact ⟨_, ((((rd_T129 l0 0).f0) == 4)), (by first | rfl | (simp; done) | (simp [*]; done)), H', ⟨by first | omega | exact Nat.le_refl _⟩, ⟨by repeat (first | (with_reducible first | exact HB.out | apply below_alloc | apply pw_below_drewN | apply below_drew1) | exact HB.out)⟩⟩
    case rest =>
      clear HC3
      try clear p1
      try clear q1
      try clear hx1
      try clear qi1
      try clear c2
      try clear c2b0
      try clear c2b1
      try clear p2
      try clear c4
      try clear c4b0
      try clear c4b1
      try clear hx120_0
      try clear hx120_1
      try clear hx120_2
      try clear p120
      try clear q120
      obtain ⟨kq, x7_2, rfl, HA, HJ2, HB⟩ := hcut
      cases kq with
      | zero => exact absurd HA.out (by simp [spec_l8Num_in.j0])
      | succ kj2 =>
        have H := HA.out
        clear HA
        simp only [spec_l8Num_in.j0] at H
        by_cases c5 : x7_2 = true
        · subst c5
          have H1 : (if 0 < (l0.length : Int) then (some (((rd_T129 l0 0).f1) == 0)) else (none)) = some r := by rw [if_pos rfl] at H; exact H
          clear H
          have H := H1
          clear H1
          by_cases c6 : 0 < (l0.length : Int)
          · rw [if_pos c6] at H
            have c6b0 : decide (0 < (l0.length : Int)) = true := decide_eq_true c6
            have c6b1 : decide (0 < l0.length) = true := decide_eq_true (by omega)
            clear c6
            obtain rfl := Option.some.inj H
            have p121 : 0 ≤ (0 : Int) := (by omega)
            have q121 : 0 < (l0.length : Int) := of_decide_eq_true (by first | (with_reducible assumption) | assumption)
            (try clear hx120_0); (try clear hx120_1); (try clear hx120_2); (try clear hHeld)
            obtain ⟨ad121, e121, hx121_0, hx121_1, hx121_2⟩ := at_T129 HR0.out 0 p121 q121
            obtain rfl : ad120 = ad121 := (by injection e121)
            have qi121 : (0 < l0.length) = True := eq_true (by omega)
            (try rw [show ((0 : Int)).toNat = 0 from rfl] at hx121_0)
            (try rw [show 0 * 3 = 0 from rfl] at hx121_0)
            (try rw [Addr.add_zero'] at hx121_0)
            (try rw [show ((0 : Int)).toNat = 0 from rfl] at hx121_1)
            (try rw [show 0 * 3 = 0 from rfl] at hx121_1)
            (try rw [Addr.add_zero'] at hx121_1)
            (try rw [show ((0 : Int)).toNat = 0 from rfl] at hx121_2)
            (try rw [show 0 * 3 = 0 from rfl] at hx121_2)
            (try rw [Addr.add_zero'] at hx121_2)
            replace hx121_0 := (HB.out.cell (World.block_lt_of_cell? w _ hx121_0)).trans hx121_0
            replace hx121_1 := (HB.out.cell (World.block_lt_of_cell? w _ hx121_1)).trans hx121_1
            replace hx121_2 := (HB.out.cell (World.block_lt_of_cell? w _ hx121_2)).trans hx121_2
            replace p121 := eq_true p121
            replace q121 := eq_true q121
            go_wp2
            go_ret
            exact ⟨by first | rfl | (simp [errW_none, errW_some] <;> rfl) | (simp [*, errW_none, errW_some] <;> rfl), by repeat (first | (with_reducible first | exact HB.out | apply below_alloc | apply pw_below_drewN | apply below_drew1) | exact HB.out)⟩
          · rw [if_neg c6] at H
            exact absurd H (by simp)
        · replace c5 := Bool.eq_false_iff.mpr c5
          subst c5
          have H1 : (if ((rd_T129 l0 0).f0) = 2 then (if 0 < (l0.length : Int) then ((spec_l1In.f ((rd_T129 l0 0).f1) 0 1).bind fun t123 => (some t123)) else (none)) else (if ((rd_T129 l0 0).f0) = 3 then (if 0 < (l0.length : Int) then ((spec_l1In.f ((rd_T129 l0 0).f1) 0 2147483646).bind fun t125 => (some t125)) else (none)) else (if 0 < (l0.length : Int) then ((spec_l1In.f ((rd_T129 l0 0).f1) 0 20).bind fun t127 => (some t127)) else (none)))) = some r := by rw [if_neg (show ¬ (false = true) by decide)] at H; exact H
          clear H
          have H := H1
          clear H1
          by_cases c7 : ((rd_T129 l0 0).f0) = 2
          · rw [if_pos c7] at H
            have c7b0 : (((rd_T129 l0 0).f0) == 2) = true := beq_iff_eq.mpr c7
            have c7b1 : (((rd_T129 l0 0).f0) != 2) = false := bne_eq_false_iff_eq.mpr c7
            clear c7
            by_cases c8 : 0 < (l0.length : Int)
            · rw [if_pos c8] at H
              have c8b0 : decide (0 < (l0.length : Int)) = true := decide_eq_true c8
              have c8b1 : decide (0 < l0.length) = true := decide_eq_true (by omega)
              clear c8
              replace H := Option.bind_eq_some_iff.mp H
              obtain ⟨t123, A90, H⟩ := H
              replace H : (some t123) = some r := H
              have A9 := Aside0.mk A90
              clear A90
              obtain rfl := Option.some.inj H
              have p122 : 0 ≤ (0 : Int) := (by omega)
              have q122 : 0 < (l0.length : Int) := of_decide_eq_true (by first | (with_reducible assumption) | assumption)
              obtain ⟨ad122, e122, hx122_0, hx122_1, hx122_2⟩ := at_T129 HR0.out 0 p122 q122
              obtain rfl : ad120 = ad122 := (by injection e122)
              have qi122 : (0 < l0.length) = True := eq_true (by omega)
              (try rw [show ((0 : Int)).toNat = 0 from rfl] at hx122_0)
              (try rw [show 0 * 3 = 0 from rfl] at hx122_0)
              (try rw [Addr.add_zero'] at hx122_0)
              (try rw [show ((0 : Int)).toNat = 0 from rfl] at hx122_1)
              (try rw [show 0 * 3 = 0 from rfl] at hx122_1)
              (try rw [Addr.add_zero'] at hx122_1)
              (try rw [show ((0 : Int)).toNat = 0 from rfl] at hx122_2)
              (try rw [show 0 * 3 = 0 from rfl] at hx122_2)
              (try rw [Addr.add_zero'] at hx122_2)
              replace hx122_0 := (HB.out.cell (World.block_lt_of_cell? w _ hx122_0)).trans hx122_0
              replace hx122_1 := (HB.out.cell (World.block_lt_of_cell? w _ hx122_1)).trans hx122_1
              replace hx122_2 := (HB.out.cell (World.block_lt_of_cell? w _ hx122_2)).trans hx122_2
              replace p122 := eq_true p122
              replace q122 := eq_true q122
              go_wp2_with (first | ((with_reducible refine gate_callee (f := 124) rfl ?_); refine goesL_ (some 21) rfl rfl Try.func124 (by kernel_rfl) rfl #[.int .i64 ((rd_T129 l0 0).f1), .int .i64 0, .int .i64 1] rfl (by (try simp only [List.map_toArray, List.map_cons, List.map_nil]); first | done | rfl | (simp only [List.length_drop, List.length_take]; rfl)) ?_; (with_reducible refine (spec_l1In.calls ((rd_T129 l0 0).f1) 0 1 t123 _ A9.out).mono ?_); rintro e w' ⟨rfl, ⟨nd, rfl⟩⟩; refine ⟨_, rfl, ?_⟩))
              go_ret
              exact ⟨by first | rfl | (simp [errW_none, errW_some] <;> rfl) | (simp [*, errW_none, errW_some] <;> rfl), by repeat (first | (with_reducible first | exact HB.out | apply below_alloc | apply pw_below_drewN | apply below_drew1) | exact HB.out)⟩
            · rw [if_neg c8] at H
              exact absurd H (by simp)
          · rw [if_neg c7] at H
            have c7b0 : (((rd_T129 l0 0).f0) == 2) = false := beq_eq_false_iff_ne.mpr c7
            have c7b1 : (((rd_T129 l0 0).f0) != 2) = true := bne_iff_ne.mpr c7
            by_cases c10 : ((rd_T129 l0 0).f0) = 3
            · rw [if_pos c10] at H
              have c10b0 : (((rd_T129 l0 0).f0) == 3) = true := beq_iff_eq.mpr c10
              have c10b1 : (((rd_T129 l0 0).f0) != 3) = false := bne_eq_false_iff_eq.mpr c10
              clear c10
              by_cases c11 : 0 < (l0.length : Int)
              · rw [if_pos c11] at H
                have c11b0 : decide (0 < (l0.length : Int)) = true := decide_eq_true c11
                have c11b1 : decide (0 < l0.length) = true := decide_eq_true (by omega)
                clear c11
                replace H := Option.bind_eq_some_iff.mp H
                obtain ⟨t125, A120, H⟩ := H
                replace H : (some t125) = some r := H
                have A12 := Aside0.mk A120
                clear A120
                obtain rfl := Option.some.inj H
                have p124 : 0 ≤ (0 : Int) := (by omega)
                have q124 : 0 < (l0.length : Int) := of_decide_eq_true (by first | (with_reducible assumption) | assumption)
                obtain ⟨ad124, e124, hx124_0, hx124_1, hx124_2⟩ := at_T129 HR0.out 0 p124 q124
                obtain rfl : ad120 = ad124 := (by injection e124)
                have qi124 : (0 < l0.length) = True := eq_true (by omega)
                (try rw [show ((0 : Int)).toNat = 0 from rfl] at hx124_0)
                (try rw [show 0 * 3 = 0 from rfl] at hx124_0)
                (try rw [Addr.add_zero'] at hx124_0)
                (try rw [show ((0 : Int)).toNat = 0 from rfl] at hx124_1)
                (try rw [show 0 * 3 = 0 from rfl] at hx124_1)
                (try rw [Addr.add_zero'] at hx124_1)
                (try rw [show ((0 : Int)).toNat = 0 from rfl] at hx124_2)
                (try rw [show 0 * 3 = 0 from rfl] at hx124_2)
                (try rw [Addr.add_zero'] at hx124_2)
                replace hx124_0 := (HB.out.cell (World.block_lt_of_cell? w _ hx124_0)).trans hx124_0
                replace hx124_1 := (HB.out.cell (World.block_lt_of_cell? w _ hx124_1)).trans hx124_1
                replace hx124_2 := (HB.out.cell (World.block_lt_of_cell? w _ hx124_2)).trans hx124_2
                replace p124 := eq_true p124
                replace q124 := eq_true q124
                go_wp2_with (first | ((with_reducible refine gate_callee (f := 124) rfl ?_); refine goesL_ (some 28) rfl rfl Try.func124 (by kernel_rfl) rfl #[.int .i64 ((rd_T129 l0 0).f1), .int .i64 0, .int .i64 2147483646] rfl (by (try simp only [List.map_toArray, List.map_cons, List.map_nil]); first | done | rfl | (simp only [List.length_drop, List.length_take]; rfl)) ?_; (with_reducible refine (spec_l1In.calls ((rd_T129 l0 0).f1) 0 2147483646 t125 _ A12.out).mono ?_); rintro e w' ⟨rfl, ⟨nd, rfl⟩⟩; refine ⟨_, rfl, ?_⟩))
                go_ret
                exact ⟨by first | rfl | (simp [errW_none, errW_some] <;> rfl) | (simp [*, errW_none, errW_some] <;> rfl), by repeat (first | (with_reducible first | exact HB.out | apply below_alloc | apply pw_below_drewN | apply below_drew1) | exact HB.out)⟩
              · rw [if_neg c11] at H
                exact absurd H (by simp)
            · rw [if_neg c10] at H
              have c10b0 : (((rd_T129 l0 0).f0) == 3) = false := beq_eq_false_iff_ne.mpr c10
              have c10b1 : (((rd_T129 l0 0).f0) != 3) = true := bne_iff_ne.mpr c10
              by_cases c13 : 0 < (l0.length : Int)
              · rw [if_pos c13] at H
                have c13b0 : decide (0 < (l0.length : Int)) = true := decide_eq_true c13
                have c13b1 : decide (0 < l0.length) = true := decide_eq_true (by omega)
                clear c13
                replace H := Option.bind_eq_some_iff.mp H
                obtain ⟨t127, A140, H⟩ := H
                replace H : (some t127) = some r := H
                have A14 := Aside0.mk A140
                clear A140
                obtain rfl := Option.some.inj H
                have p126 : 0 ≤ (0 : Int) := (by omega)
                have q126 : 0 < (l0.length : Int) := of_decide_eq_true (by first | (with_reducible assumption) | assumption)
                obtain ⟨ad126, e126, hx126_0, hx126_1, hx126_2⟩ := at_T129 HR0.out 0 p126 q126
                obtain rfl : ad120 = ad126 := (by injection e126)
                have qi126 : (0 < l0.length) = True := eq_true (by omega)
                (try rw [show ((0 : Int)).toNat = 0 from rfl] at hx126_0)
                (try rw [show 0 * 3 = 0 from rfl] at hx126_0)
                (try rw [Addr.add_zero'] at hx126_0)
                (try rw [show ((0 : Int)).toNat = 0 from rfl] at hx126_1)
                (try rw [show 0 * 3 = 0 from rfl] at hx126_1)
                (try rw [Addr.add_zero'] at hx126_1)
                (try rw [show ((0 : Int)).toNat = 0 from rfl] at hx126_2)
                (try rw [show 0 * 3 = 0 from rfl] at hx126_2)
                (try rw [Addr.add_zero'] at hx126_2)
                replace hx126_0 := (HB.out.cell (World.block_lt_of_cell? w _ hx126_0)).trans hx126_0
                replace hx126_1 := (HB.out.cell (World.block_lt_of_cell? w _ hx126_1)).trans hx126_1
                replace hx126_2 := (HB.out.cell (World.block_lt_of_cell? w _ hx126_2)).trans hx126_2
                replace p126 := eq_true p126
                replace q126 := eq_true q126
                go_wp2_with (first | ((with_reducible refine gate_callee (f := 124) rfl ?_); refine goesL_ (some 33) rfl rfl Try.func124 (by kernel_rfl) rfl #[.int .i64 ((rd_T129 l0 0).f1), .int .i64 0, .int .i64 20] rfl (by (try simp only [List.map_toArray, List.map_cons, List.map_nil]); first | done | rfl | (simp only [List.length_drop, List.length_take]; rfl)) ?_; (with_reducible refine (spec_l1In.calls ((rd_T129 l0 0).f1) 0 20 t127 _ A14.out).mono ?_); rintro e w' ⟨rfl, ⟨nd, rfl⟩⟩; refine ⟨_, rfl, ?_⟩))
                go_ret
                exact ⟨by first | rfl | (simp [errW_none, errW_some] <;> rfl) | (simp [*, errW_none, errW_some] <;> rfl), by repeat (first | (with_reducible first | exact HB.out | apply below_alloc | apply pw_below_drewN | apply below_drew1) | exact HB.out)⟩
              · rw [if_neg c13] at H
                exact absurd H (by simp)
  · rw [if_neg c2] at H
    exact absurd H (by simp)

/-! ### spec_l8Num: spec_l8Num_in with its records by value; the contract of the pointer -/
def spec_l8Num.f (k : Nat) (a0_0 : Int) (a0_1 : Int) (a0_2 : ByteArray) : Option (Bool) := spec_l8Num_in.f k [(⟨a0_0, a0_1, a0_2⟩ : S129)]
theorem spec_l8Num.mono : ∀ (a0_0 : Int) (a0_1 : Int) (a0_2 : ByteArray) (k : Nat), LeO (spec_l8Num.f k a0_0 a0_1 a0_2) (spec_l8Num.f (k + 1) a0_0 a0_1 a0_2) := fun a0_0 a0_1 a0_2 k => spec_l8Num_in.mono [(⟨a0_0, a0_1, a0_2⟩ : S129)] k
set_option maxHeartbeats 8000000 in
theorem spec_l8Num.calls (k : Nat) (a0_0 : Int) (a0_1 : Int) (a0_2 : ByteArray) (r : Bool) (w : World) (h : spec_l8Num.f k a0_0 a0_1 a0_2 = some r) {pp0 : Addr} (hpp0_0 : w.cell? pp0 = some (.int .i64 a0_0)) (hpp0_1 : w.cell? ⟨pp0.block, pp0.off + 1, none⟩ = some (.int .i64 a0_1)) (hpp0_2 : w.cell? ⟨pp0.block, pp0.off + 2, none⟩ = some (.string a0_2)) :
    Calls Try.prog 180 #[.pointer (some pp0)] w fun e w' => e = .returned (.bool r) ∧ Below w.heap.size w w' := by
  have o0 : Kd.C k129 w (some pp0) 1 [(⟨a0_0, a0_1, a0_2⟩ : S129)] := by
    refine ⟨rfl, by decide, fun _ => ⟨pp0, rfl, fun j p hj => ?_⟩⟩
    cases j with
    | succ j => simp at hj
    | zero =>
      obtain rfl : (⟨a0_0, a0_1, a0_2⟩ : S129) = p := by simpa using hj
      refine ⟨_, rfl, k129_mk w _, fun i u hu => ?_⟩
      match i, hu with
      | 0, hu => obtain rfl := Option.some.inj hu; exact hpp0_0
      | 1, hu => obtain rfl := Option.some.inj hu; exact hpp0_1
      | 2, hu => obtain rfl := Option.some.inj hu; exact hpp0_2
  exact spec_l8Num_in.calls k (some pp0) 1 [(⟨a0_0, a0_1, a0_2⟩ : S129)] r w o0 (Nat.le_refl 1) h

/-! ### spec_l8Text: function 181 -/
def spec_l8Text.l0 : Nat → ByteArray → Int → Option (Bool)
  | 0, _, _ => none
  | k + 1, x0, x3 => if x3 < (x0.size : Int) then (if 0 ≤ x3 then (if (bt x0 x3) < 32 then (some false) else (if (bt x0 x3) > 126 then (some false) else (if (bt x0 x3) = 34 then (some false) else (if (bt x0 x3) = 92 then (some false) else (spec_l8Text.l0 k x0 (wrap64 (x3 + 1))))))) else (none)) else (some (decide ((x0.size : Int) ≤ 40)))
def spec_l8Text.f (k : Nat) (a0 : ByteArray) : Option (Bool) := spec_l8Text.l0 k a0 0
theorem spec_l8Text.mono_l : ∀ k, (∀ y0 y1, LeO (spec_l8Text.l0 k y0 y1) (spec_l8Text.l0 (k + 1) y0 y1))
  | 0 => fun _ _ r h => by simp [spec_l8Text.l0] at h
  | k + 1 => by
    have ih0 := spec_l8Text.mono_l k
    · intro y0 y1
      unfold spec_l8Text.l0
      repeat' first
      | (with_reducible exact ih0 _ _)
      | (with_reducible exact LeO.refl _)
      | (with_reducible exact LeO.none _)
      | (with_reducible refine LeO.ite ?_ ?_)
      | (with_reducible refine LeO.bind ?_ (fun _ => ?_))
      | exact ih0 _ _
      | exact LeO.none _
      | refine LeO.ite ?_ ?_
      | refine LeO.bind ?_ (fun _ => ?_)
theorem spec_l8Text.mono : ∀ a0 k, LeO (spec_l8Text.f k a0) (spec_l8Text.f (k + 1) a0) := by
  intro a0 k
  have ih0 := spec_l8Text.mono_l k
  unfold spec_l8Text.f
  repeat' first
      | (with_reducible exact ih0 _ _)
      | (with_reducible exact LeO.refl _)
      | (with_reducible exact LeO.none _)
      | (with_reducible refine LeO.ite ?_ ?_)
      | (with_reducible refine LeO.bind ?_ (fun _ => ?_))
      | exact ih0 _ _
      | exact LeO.none _
      | refine LeO.ite ?_ ?_
      | refine LeO.bind ?_ (fun _ => ?_)
set_option maxHeartbeats 8000000 in
set_option maxRecDepth 100000 in
theorem spec_l8Text.calls (k : Nat) (a0 : ByteArray) (r : Bool) (w : World) (h : spec_l8Text.f k a0 = some r) :
    Calls Try.prog 181 #[.string a0] w fun e w' => e = .returned (.bool r) ∧ Drawn0 w w' := by
  have H : (spec_l8Text.l0 k a0 0) = some r := h
  clear h
  have H' := Aside0.mk H
  clear H
  go_enter Try.func181, Try.ntmps181
  go_wp2
  go_loopg [3] k (fun kq v3 w' => ∃ (x3_1 : Int), v3 = .int .i64 x3_1 ∧ Aside0 (spec_l8Text.l0 kq a0 x3_1 = some r) ∧ Aside0 (kq ≤ k) ∧ Drawn0 w w')
  case atStart => exact ⟨(0), (by first | rfl | (simp; done) | (simp [*]; done)), H', ⟨Nat.le_refl _⟩, by repeat (first | exact Drawn0.refl _ | apply Drawn0.step)⟩
  case round =>
    clear H'
    try clear c1
    obtain ⟨x3_1, rfl, HA, HK1, ⟨m1, rfl⟩⟩ := hrel
    cases gk with
    | zero => exact absurd HA.out (by simp [spec_l8Text.l0])
    | succ k1 =>
      have H := HA.out
      clear HA
      simp only [spec_l8Text.l0] at H
      by_cases c2 : x3_1 < (a0.size : Int)
      · rw [if_pos c2] at H
        have c2b0 : decide (x3_1 < (a0.size : Int)) = true := decide_eq_true c2
        clear c2
        by_cases c3 : 0 ≤ x3_1
        · rw [if_pos c3] at H
          have c3b0 : decide (0 ≤ x3_1) = true := decide_eq_true c3
          clear c3
          by_cases c5 : (bt a0 x3_1) < 32
          · rw [if_pos c5] at H
            have c5b0 : decide ((bt a0 x3_1) < 32) = true := decide_eq_true c5
            clear c5
            obtain rfl := Option.some.inj H
            have p4 : 0 ≤ (x3_1 : Int) := of_decide_eq_true (by first | (with_reducible assumption) | assumption)
            have q4 : x3_1 < (a0.size : Int) := of_decide_eq_true (by first | (with_reducible assumption) | assumption)
            have hx4 := bt_at a0 x3_1
            replace p4 := eq_true p4
            replace q4 := eq_true q4
            go_wp2
            go_ret
            exact ⟨by first | rfl | (simp; done) | (simp [*]; done), by repeat (first | exact Drawn0.refl _ | apply Drawn0.step)⟩
          · rw [if_neg c5] at H
            have c5b0 : decide ((bt a0 x3_1) < 32) = false := decide_eq_false c5
            clear c5
            by_cases c7 : (bt a0 x3_1) > 126
            · rw [if_pos c7] at H
              have c7b0 : decide (126 < (bt a0 x3_1)) = true := decide_eq_true c7
              clear c7
              obtain rfl := Option.some.inj H
              have p4 : 0 ≤ (x3_1 : Int) := of_decide_eq_true (by first | (with_reducible assumption) | assumption)
              have q4 : x3_1 < (a0.size : Int) := of_decide_eq_true (by first | (with_reducible assumption) | assumption)
              have hx4 := bt_at a0 x3_1
              replace p4 := eq_true p4
              replace q4 := eq_true q4
              have p6 : 0 ≤ (x3_1 : Int) := of_decide_eq_true (by first | (with_reducible assumption) | assumption)
              have q6 : x3_1 < (a0.size : Int) := of_decide_eq_true (by first | (with_reducible assumption) | assumption)
              have hx6 := bt_at a0 x3_1
              replace p6 := eq_true p6
              replace q6 := eq_true q6
              go_wp2
              go_ret
              exact ⟨by first | rfl | (simp; done) | (simp [*]; done), by repeat (first | exact Drawn0.refl _ | apply Drawn0.step)⟩
            · rw [if_neg c7] at H
              have c7b0 : decide (126 < (bt a0 x3_1)) = false := decide_eq_false c7
              clear c7
              by_cases c9 : (bt a0 x3_1) = 34
              · rw [if_pos c9] at H
                have c9b0 : ((bt a0 x3_1) == 34) = true := beq_iff_eq.mpr c9
                have c9b1 : ((bt a0 x3_1) != 34) = false := bne_eq_false_iff_eq.mpr c9
                clear c9
                obtain rfl := Option.some.inj H
                have p4 : 0 ≤ (x3_1 : Int) := of_decide_eq_true (by first | (with_reducible assumption) | assumption)
                have q4 : x3_1 < (a0.size : Int) := of_decide_eq_true (by first | (with_reducible assumption) | assumption)
                have hx4 := bt_at a0 x3_1
                replace p4 := eq_true p4
                replace q4 := eq_true q4
                have p6 : 0 ≤ (x3_1 : Int) := of_decide_eq_true (by first | (with_reducible assumption) | assumption)
                have q6 : x3_1 < (a0.size : Int) := of_decide_eq_true (by first | (with_reducible assumption) | assumption)
                have hx6 := bt_at a0 x3_1
                replace p6 := eq_true p6
                replace q6 := eq_true q6
                have p8 : 0 ≤ (x3_1 : Int) := of_decide_eq_true (by first | (with_reducible assumption) | assumption)
                have q8 : x3_1 < (a0.size : Int) := of_decide_eq_true (by first | (with_reducible assumption) | assumption)
                have hx8 := bt_at a0 x3_1
                replace p8 := eq_true p8
                replace q8 := eq_true q8
                go_wp2
                go_ret
                exact ⟨by first | rfl | (simp; done) | (simp [*]; done), by repeat (first | exact Drawn0.refl _ | apply Drawn0.step)⟩
              · rw [if_neg c9] at H
                have c9b0 : ((bt a0 x3_1) == 34) = false := beq_eq_false_iff_ne.mpr c9
                have c9b1 : ((bt a0 x3_1) != 34) = true := bne_iff_ne.mpr c9
                by_cases c11 : (bt a0 x3_1) = 92
                · rw [if_pos c11] at H
                  have c11b0 : ((bt a0 x3_1) == 92) = true := beq_iff_eq.mpr c11
                  have c11b1 : ((bt a0 x3_1) != 92) = false := bne_eq_false_iff_eq.mpr c11
                  clear c11
                  obtain rfl := Option.some.inj H
                  have p4 : 0 ≤ (x3_1 : Int) := of_decide_eq_true (by first | (with_reducible assumption) | assumption)
                  have q4 : x3_1 < (a0.size : Int) := of_decide_eq_true (by first | (with_reducible assumption) | assumption)
                  have hx4 := bt_at a0 x3_1
                  replace p4 := eq_true p4
                  replace q4 := eq_true q4
                  have p6 : 0 ≤ (x3_1 : Int) := of_decide_eq_true (by first | (with_reducible assumption) | assumption)
                  have q6 : x3_1 < (a0.size : Int) := of_decide_eq_true (by first | (with_reducible assumption) | assumption)
                  have hx6 := bt_at a0 x3_1
                  replace p6 := eq_true p6
                  replace q6 := eq_true q6
                  have p8 : 0 ≤ (x3_1 : Int) := of_decide_eq_true (by first | (with_reducible assumption) | assumption)
                  have q8 : x3_1 < (a0.size : Int) := of_decide_eq_true (by first | (with_reducible assumption) | assumption)
                  have hx8 := bt_at a0 x3_1
                  replace p8 := eq_true p8
                  replace q8 := eq_true q8
                  have p10 : 0 ≤ (x3_1 : Int) := of_decide_eq_true (by first | (with_reducible assumption) | assumption)
                  have q10 : x3_1 < (a0.size : Int) := of_decide_eq_true (by first | (with_reducible assumption) | assumption)
                  have hx10 := bt_at a0 x3_1
                  replace p10 := eq_true p10
                  replace q10 := eq_true q10
                  go_wp2
                  go_ret
                  exact ⟨by first | rfl | (simp; done) | (simp [*]; done), by repeat (first | exact Drawn0.refl _ | apply Drawn0.step)⟩
                · rw [if_neg c11] at H
                  have c11b0 : ((bt a0 x3_1) == 92) = false := beq_eq_false_iff_ne.mpr c11
                  have c11b1 : ((bt a0 x3_1) != 92) = true := bne_iff_ne.mpr c11
                  have H' := Aside0.mk H
                  clear H
                  have p4 : 0 ≤ (x3_1 : Int) := of_decide_eq_true (by first | (with_reducible assumption) | assumption)
                  have q4 : x3_1 < (a0.size : Int) := of_decide_eq_true (by first | (with_reducible assumption) | assumption)
                  have hx4 := bt_at a0 x3_1
                  replace p4 := eq_true p4
                  replace q4 := eq_true q4
                  have p6 : 0 ≤ (x3_1 : Int) := of_decide_eq_true (by first | (with_reducible assumption) | assumption)
                  have q6 : x3_1 < (a0.size : Int) := of_decide_eq_true (by first | (with_reducible assumption) | assumption)
                  have hx6 := bt_at a0 x3_1
                  replace p6 := eq_true p6
                  replace q6 := eq_true q6
                  have p8 : 0 ≤ (x3_1 : Int) := of_decide_eq_true (by first | (with_reducible assumption) | assumption)
                  have q8 : x3_1 < (a0.size : Int) := of_decide_eq_true (by first | (with_reducible assumption) | assumption)
                  have hx8 := bt_at a0 x3_1
                  replace p8 := eq_true p8
                  replace q8 := eq_true q8
                  have p10 : 0 ≤ (x3_1 : Int) := of_decide_eq_true (by first | (with_reducible assumption) | assumption)
                  have q10 : x3_1 < (a0.size : Int) := of_decide_eq_true (by first | (with_reducible assumption) | assumption)
                  have hx10 := bt_at a0 x3_1
                  replace p10 := eq_true p10
                  replace q10 := eq_true q10
                  go_wp2
                  go_roundg k1
                  case measure => have := HK1.out; omega
                  case rel => exact ⟨(wrap64 (x3_1 + 1)), (by first | rfl | (simp; done) | (simp [*]; done)), H', ⟨by have := HK1.out; omega⟩, by repeat (first | exact Drawn0.refl _ | apply Drawn0.step)⟩
        · rw [if_neg c3] at H
          exact absurd H (by simp)
      · rw [if_neg c2] at H
        have c2b0 : decide (x3_1 < (a0.size : Int)) = false := decide_eq_false c2
        clear c2
        obtain rfl := Option.some.inj H
        go_wp2
        go_ret
        exact ⟨by first | rfl | (simp; done) | (simp [*]; done), by repeat (first | exact Drawn0.refl _ | apply Drawn0.step)⟩

end Go.Proofs.Ytjgnjhbleiempaa.QFnExactMapEntry
