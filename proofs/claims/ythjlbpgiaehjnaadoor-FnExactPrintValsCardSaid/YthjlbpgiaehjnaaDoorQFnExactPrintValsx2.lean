-- written by this session's program (wip/tools/myprint.py)
import Derived.Test.YthjlbpgiaehjnaaDoorQFnExactPrintValsx0
import Derived.Test.YthjlbpgiaehjnaaDoorQFnExactPrintValsx1
namespace Go.Proofs.YthjlbpgiaehjnaaDoor.QFnExactPrintVals
open Go.RowKit Go.Proofs.YthjlbpgiaehjnaaDoorW.PrintWords Go.Proofs.YthjlbpgiaehjnaaDoorW.PrintLast Go.Proofs.YthjlbpgiaehjnaaDoorW.PrintMore
attribute [local go_sem] max2_int min2_int max_two min_two max_three min_three max_four min_four   -- for this text's walks alone
set_option linter.unusedVariables false
set_option linter.unusedSimpArgs false

/-! ### spec_l8One_in: function 187 -/
def spec_l8One_in.j0 : Nat → List (S81) → Bool → Option (Int)
  | 0, _, _ => none
  | k + 1, x0, x43 => if x43 = true then (some 1) else (if 0 < (x0.length : Int) then ((spec_l8Num.f k ((rd_T81 x0 0).f0) ((rd_T81 x0 0).f1) ((rd_T81 x0 0).f2)).bind fun t117 => (if t117 = true then ((spec_l8Text.f k ((rd_T81 x0 0).f2)).bind fun t119 => (if t119 = true then (some 0) else (some 5))) else (some 3))) else (none))
def spec_l8One_in.f (k : Nat) (l0 : List (S81)) : Option (Int) := if 0 < (l0.length : Int) then ((spec_l1In.f ((rd_T81 l0 0).f0) 1 6).bind fun t115 => (if t115 = true then (if ((rd_T81 l0 0).f0) = 4 then (if ((rd_T81 l0 0).f0) = 1 then (spec_l8One_in.j0 k l0 (((rd_T81 l0 0).f1) != 0)) else (spec_l8One_in.j0 k l0 (((rd_T81 l0 0).f1) != 0))) else (if ((rd_T81 l0 0).f2).toList = ([] : List UInt8) then (if ((rd_T81 l0 0).f0) = 1 then (spec_l8One_in.j0 k l0 (((rd_T81 l0 0).f1) != 0)) else (spec_l8One_in.j0 k l0 false)) else (spec_l8One_in.j0 k l0 true))) else (spec_l8One_in.j0 k l0 true))) else (none)
theorem spec_l8One_in.mono_l : ∀ k, (∀ y0 y1, LeO (spec_l8One_in.j0 k y0 y1) (spec_l8One_in.j0 (k + 1) y0 y1))
  | 0 => fun _ _ r h => by simp [spec_l8One_in.j0] at h
  | k + 1 => by
    have ih0 := spec_l8One_in.mono_l k
    · intro y0 y1
      unfold spec_l8One_in.j0
      repeat' first
      | (with_reducible exact ih0 _ _)
      | (with_reducible exact spec_l8Num.mono _ _ _ _)
      | (with_reducible exact spec_l8Text.mono _ _)
      | (with_reducible exact LeO.refl _)
      | (with_reducible exact LeO.none _)
      | (with_reducible refine LeO.ite ?_ ?_)
      | (with_reducible refine LeO.bind ?_ (fun _ => ?_))
      | exact ih0 _ _
      | exact spec_l8Num.mono _ _ _ _
      | exact spec_l8Text.mono _ _
      | exact LeO.none _
      | refine LeO.ite ?_ ?_
      | refine LeO.bind ?_ (fun _ => ?_)
theorem spec_l8One_in.mono : ∀ a0 k, LeO (spec_l8One_in.f k a0) (spec_l8One_in.f (k + 1) a0) := by
  intro a0 k
  have ih0 := spec_l8One_in.mono_l k
  unfold spec_l8One_in.f
  repeat' first
      | (with_reducible exact ih0 _ _)
      | (with_reducible exact spec_l8Num.mono _ _ _ _)
      | (with_reducible exact spec_l8Text.mono _ _)
      | (with_reducible exact LeO.refl _)
      | (with_reducible exact LeO.none _)
      | (with_reducible refine LeO.ite ?_ ?_)
      | (with_reducible refine LeO.bind ?_ (fun _ => ?_))
      | exact ih0 _ _
      | exact spec_l8Num.mono _ _ _ _
      | exact spec_l8Text.mono _ _
      | exact LeO.none _
      | refine LeO.ite ?_ ?_
      | refine LeO.bind ?_ (fun _ => ?_)
set_option maxHeartbeats 8000000 in
set_option maxRecDepth 100000 in
theorem spec_l8One_in.calls (k : Nat) (A0 : Option Addr) (c0 : Nat) (l0 : List (S81)) (r : Int) (w : World) (hr0 : Kd.C k81 w A0 l0.length l0) (hc0 : l0.length ≤ c0) (h : spec_l8One_in.f k l0 = some r) :
    Calls Tryd.prog 80 #[.pointer A0] w fun e w' => e = .returned (.int .i64 r) ∧ Below w.heap.size w w' := by
  have hu81 := Tryd.underlying81
  have HR0 := Aside0.mk hr0
  have HC0 := Aside0.mk hc0
  clear hr0 hc0
  have HB := Aside0.mk (Below.refl w.heap.size w)
  have H : (if 0 < (l0.length : Int) then ((spec_l1In.f ((rd_T81 l0 0).f0) 1 6).bind fun t115 => (if t115 = true then (if ((rd_T81 l0 0).f0) = 4 then (if ((rd_T81 l0 0).f0) = 1 then (spec_l8One_in.j0 k l0 (((rd_T81 l0 0).f1) != 0)) else (spec_l8One_in.j0 k l0 (((rd_T81 l0 0).f1) != 0))) else (if ((rd_T81 l0 0).f2).toList = ([] : List UInt8) then (if ((rd_T81 l0 0).f0) = 1 then (spec_l8One_in.j0 k l0 (((rd_T81 l0 0).f1) != 0)) else (spec_l8One_in.j0 k l0 false)) else (spec_l8One_in.j0 k l0 true))) else (spec_l8One_in.j0 k l0 true))) else (none)) = some r := h
  clear h
  have HC2 := Aside0.mk H
  clear H
  go_enter Tryd.func80, Tryd.ntmps80
  go_upto_region 1 with (fail)
  go_cut [43] (fun v43 wc => ∃ (kq : Nat) (x43_1 : Bool), v43 = .bool x43_1 ∧ Aside0 (spec_l8One_in.j0 kq l0 x43_1 = some r) ∧ Aside0 (kq ≤ k) ∧ Aside0 (Below w.heap.size w wc))
  case first =>
    have H := HC2.out
    clear HC2
    by_cases c3 : 0 < (l0.length : Int)
    · rw [if_pos c3] at H
      have c3b0 : decide (0 < (l0.length : Int)) = true := decide_eq_true c3
      have c3b1 : decide (0 < l0.length) = true := decide_eq_true (by omega)
      clear c3
      (first | rw [c3b0] | (simp only [i64_w, i32_w]; rw [c3b0]) | skip)
      replace H := Option.bind_eq_some_iff.mp H
      obtain ⟨t115, A40, H⟩ := H
      replace H : (if t115 = true then (if ((rd_T81 l0 0).f0) = 4 then (if ((rd_T81 l0 0).f0) = 1 then (spec_l8One_in.j0 k l0 (((rd_T81 l0 0).f1) != 0)) else (spec_l8One_in.j0 k l0 (((rd_T81 l0 0).f1) != 0))) else (if ((rd_T81 l0 0).f2).toList = ([] : List UInt8) then (if ((rd_T81 l0 0).f0) = 1 then (spec_l8One_in.j0 k l0 (((rd_T81 l0 0).f1) != 0)) else (spec_l8One_in.j0 k l0 false)) else (spec_l8One_in.j0 k l0 true))) else (spec_l8One_in.j0 k l0 true)) = some r := H
      have A4 := Aside0.mk A40
      clear A40
      by_cases c5 : t115 = true
      · subst c5
        have H1 : (if ((rd_T81 l0 0).f0) = 4 then (if ((rd_T81 l0 0).f0) = 1 then (spec_l8One_in.j0 k l0 (((rd_T81 l0 0).f1) != 0)) else (spec_l8One_in.j0 k l0 (((rd_T81 l0 0).f1) != 0))) else (if ((rd_T81 l0 0).f2).toList = ([] : List UInt8) then (if ((rd_T81 l0 0).f0) = 1 then (spec_l8One_in.j0 k l0 (((rd_T81 l0 0).f1) != 0)) else (spec_l8One_in.j0 k l0 false)) else (spec_l8One_in.j0 k l0 true))) = some r := by rw [if_pos rfl] at H; exact H
        clear H
        have H := H1
        clear H1
        by_cases c6 : ((rd_T81 l0 0).f0) = 4
        · rw [if_pos c6] at H
          have c6b0 : (((rd_T81 l0 0).f0) == 4) = true := beq_iff_eq.mpr c6
          have c6b1 : (((rd_T81 l0 0).f0) != 4) = false := bne_eq_false_iff_eq.mpr c6
          clear c6
          by_cases c7 : ((rd_T81 l0 0).f0) = 1
          · rw [if_pos c7] at H
            have c7b0 : (((rd_T81 l0 0).f0) == 1) = true := beq_iff_eq.mpr c7
            have c7b1 : (((rd_T81 l0 0).f0) != 1) = false := bne_eq_false_iff_eq.mpr c7
            clear c7
            have H' := Aside0.mk H
            clear H
            have p114 : 0 ≤ (0 : Int) := (by omega)
            have q114 : 0 < (l0.length : Int) := of_decide_eq_true (by first | (with_reducible assumption) | assumption)
            obtain ⟨ad114, e114, hx114_0, hx114_1, hx114_2⟩ := at_T81 HR0.out 0 p114 q114
            cases e114
            have qi114 : (0 < l0.length) = True := eq_true (by omega)
            (try rw [show ((0 : Int)).toNat = 0 from rfl] at hx114_0)
            (try rw [show 0 * 3 = 0 from rfl] at hx114_0)
            (try rw [Addr.add_zero'] at hx114_0)
            (try rw [show ((0 : Int)).toNat = 0 from rfl] at hx114_1)
            (try rw [show 0 * 3 = 0 from rfl] at hx114_1)
            (try rw [Addr.add_zero'] at hx114_1)
            (try rw [show ((0 : Int)).toNat = 0 from rfl] at hx114_2)
            (try rw [show 0 * 3 = 0 from rfl] at hx114_2)
            (try rw [Addr.add_zero'] at hx114_2)
            replace hx114_0 := (HB.out.cell (World.block_lt_of_cell? w _ hx114_0)).trans hx114_0
            replace hx114_1 := (HB.out.cell (World.block_lt_of_cell? w _ hx114_1)).trans hx114_1
            replace hx114_2 := (HB.out.cell (World.block_lt_of_cell? w _ hx114_2)).trans hx114_2
            replace p114 := eq_true p114
            replace q114 := eq_true q114
            go_wp2_with (first | ((with_reducible refine gate_callee (f := 43) rfl ?_); refine goesL_ (some 7) rfl rfl Tryd.func43 (by kernel_rfl) rfl #[.int .i64 ((rd_T81 l0 0).f0), .int .i64 1, .int .i64 6] rfl (by (try simp only [List.map_toArray, List.map_cons, List.map_nil]); first | done | rfl | (simp only [List.length_drop, List.length_take]; rfl)) ?_; (with_reducible refine (spec_l1In.calls ((rd_T81 l0 0).f0) 1 6 true _ A4.out).mono ?_); rintro e w' ⟨rfl, ⟨nd, rfl⟩⟩; refine ⟨_, rfl, ?_⟩))
            go_meet
            case rel => exact ⟨_, ((((rd_T81 l0 0).f1) != 0)), (by first | rfl | (simp; done) | (simp [*]; done)), H', ⟨by first | omega | exact Nat.le_refl _⟩, ⟨by repeat (first | (with_reducible first | exact HB.out | apply below_alloc | apply pw_below_drewN | apply below_drew1) | exact HB.out)⟩⟩
          · rw [if_neg c7] at H
            have c7b0 : (((rd_T81 l0 0).f0) == 1) = false := beq_eq_false_iff_ne.mpr c7
            have c7b1 : (((rd_T81 l0 0).f0) != 1) = true := bne_iff_ne.mpr c7
            have H' := Aside0.mk H
            clear H
            have p114 : 0 ≤ (0 : Int) := (by omega)
            have q114 : 0 < (l0.length : Int) := of_decide_eq_true (by first | (with_reducible assumption) | assumption)
            obtain ⟨ad114, e114, hx114_0, hx114_1, hx114_2⟩ := at_T81 HR0.out 0 p114 q114
            cases e114
            have qi114 : (0 < l0.length) = True := eq_true (by omega)
            (try rw [show ((0 : Int)).toNat = 0 from rfl] at hx114_0)
            (try rw [show 0 * 3 = 0 from rfl] at hx114_0)
            (try rw [Addr.add_zero'] at hx114_0)
            (try rw [show ((0 : Int)).toNat = 0 from rfl] at hx114_1)
            (try rw [show 0 * 3 = 0 from rfl] at hx114_1)
            (try rw [Addr.add_zero'] at hx114_1)
            (try rw [show ((0 : Int)).toNat = 0 from rfl] at hx114_2)
            (try rw [show 0 * 3 = 0 from rfl] at hx114_2)
            (try rw [Addr.add_zero'] at hx114_2)
            replace hx114_0 := (HB.out.cell (World.block_lt_of_cell? w _ hx114_0)).trans hx114_0
            replace hx114_1 := (HB.out.cell (World.block_lt_of_cell? w _ hx114_1)).trans hx114_1
            replace hx114_2 := (HB.out.cell (World.block_lt_of_cell? w _ hx114_2)).trans hx114_2
            replace p114 := eq_true p114
            replace q114 := eq_true q114
            go_wp2_with (first | ((with_reducible refine gate_callee (f := 43) rfl ?_); refine goesL_ (some 7) rfl rfl Tryd.func43 (by kernel_rfl) rfl #[.int .i64 ((rd_T81 l0 0).f0), .int .i64 1, .int .i64 6] rfl (by (try simp only [List.map_toArray, List.map_cons, List.map_nil]); first | done | rfl | (simp only [List.length_drop, List.length_take]; rfl)) ?_; (with_reducible refine (spec_l1In.calls ((rd_T81 l0 0).f0) 1 6 true _ A4.out).mono ?_); rintro e w' ⟨rfl, ⟨nd, rfl⟩⟩; refine ⟨_, rfl, ?_⟩))
            go_meet
            case rel => exact ⟨_, ((((rd_T81 l0 0).f1) != 0)), (by first | rfl | (simp; done) | (simp [*]; done)), H', ⟨by first | omega | exact Nat.le_refl _⟩, ⟨by repeat (first | (with_reducible first | exact HB.out | apply below_alloc | apply pw_below_drewN | apply below_drew1) | exact HB.out)⟩⟩
        · rw [if_neg c6] at H
          have c6b0 : (((rd_T81 l0 0).f0) == 4) = false := beq_eq_false_iff_ne.mpr c6
          have c6b1 : (((rd_T81 l0 0).f0) != 4) = true := bne_iff_ne.mpr c6
          by_cases c8 : ((rd_T81 l0 0).f2).toList = ([] : List UInt8)
          · rw [if_pos c8] at H
            have c8b0 : (((rd_T81 l0 0).f2).toList == ([] : List UInt8)) = true := beq_iff_eq.mpr c8
            have c8b1 : (((rd_T81 l0 0).f2).toList != ([] : List UInt8)) = false := bne_eq_false_iff_eq.mpr c8
            clear c8
            by_cases c9 : ((rd_T81 l0 0).f0) = 1
            · rw [if_pos c9] at H
              have c9b0 : (((rd_T81 l0 0).f0) == 1) = true := beq_iff_eq.mpr c9
              have c9b1 : (((rd_T81 l0 0).f0) != 1) = false := bne_eq_false_iff_eq.mpr c9
              clear c9
              have H' := Aside0.mk H
              clear H
              have p114 : 0 ≤ (0 : Int) := (by omega)
              have q114 : 0 < (l0.length : Int) := of_decide_eq_true (by first | (with_reducible assumption) | assumption)
              obtain ⟨ad114, e114, hx114_0, hx114_1, hx114_2⟩ := at_T81 HR0.out 0 p114 q114
              cases e114
              have qi114 : (0 < l0.length) = True := eq_true (by omega)
              (try rw [show ((0 : Int)).toNat = 0 from rfl] at hx114_0)
              (try rw [show 0 * 3 = 0 from rfl] at hx114_0)
              (try rw [Addr.add_zero'] at hx114_0)
              (try rw [show ((0 : Int)).toNat = 0 from rfl] at hx114_1)
              (try rw [show 0 * 3 = 0 from rfl] at hx114_1)
              (try rw [Addr.add_zero'] at hx114_1)
              (try rw [show ((0 : Int)).toNat = 0 from rfl] at hx114_2)
              (try rw [show 0 * 3 = 0 from rfl] at hx114_2)
              (try rw [Addr.add_zero'] at hx114_2)
              replace hx114_0 := (HB.out.cell (World.block_lt_of_cell? w _ hx114_0)).trans hx114_0
              replace hx114_1 := (HB.out.cell (World.block_lt_of_cell? w _ hx114_1)).trans hx114_1
              replace hx114_2 := (HB.out.cell (World.block_lt_of_cell? w _ hx114_2)).trans hx114_2
              replace p114 := eq_true p114
              replace q114 := eq_true q114
              go_wp2_with (first | ((with_reducible refine gate_callee (f := 43) rfl ?_); refine goesL_ (some 7) rfl rfl Tryd.func43 (by kernel_rfl) rfl #[.int .i64 ((rd_T81 l0 0).f0), .int .i64 1, .int .i64 6] rfl (by (try simp only [List.map_toArray, List.map_cons, List.map_nil]); first | done | rfl | (simp only [List.length_drop, List.length_take]; rfl)) ?_; (with_reducible refine (spec_l1In.calls ((rd_T81 l0 0).f0) 1 6 true _ A4.out).mono ?_); rintro e w' ⟨rfl, ⟨nd, rfl⟩⟩; refine ⟨_, rfl, ?_⟩))
              go_meet
              case rel => exact ⟨_, ((((rd_T81 l0 0).f1) != 0)), (by first | rfl | (simp; done) | (simp [*]; done)), H', ⟨by first | omega | exact Nat.le_refl _⟩, ⟨by repeat (first | (with_reducible first | exact HB.out | apply below_alloc | apply pw_below_drewN | apply below_drew1) | exact HB.out)⟩⟩
            · rw [if_neg c9] at H
              have c9b0 : (((rd_T81 l0 0).f0) == 1) = false := beq_eq_false_iff_ne.mpr c9
              have c9b1 : (((rd_T81 l0 0).f0) != 1) = true := bne_iff_ne.mpr c9
              have H' := Aside0.mk H
              clear H
              have p114 : 0 ≤ (0 : Int) := (by omega)
              have q114 : 0 < (l0.length : Int) := of_decide_eq_true (by first | (with_reducible assumption) | assumption)
              obtain ⟨ad114, e114, hx114_0, hx114_1, hx114_2⟩ := at_T81 HR0.out 0 p114 q114
              cases e114
              have qi114 : (0 < l0.length) = True := eq_true (by omega)
              (try rw [show ((0 : Int)).toNat = 0 from rfl] at hx114_0)
              (try rw [show 0 * 3 = 0 from rfl] at hx114_0)
              (try rw [Addr.add_zero'] at hx114_0)
              (try rw [show ((0 : Int)).toNat = 0 from rfl] at hx114_1)
              (try rw [show 0 * 3 = 0 from rfl] at hx114_1)
              (try rw [Addr.add_zero'] at hx114_1)
              (try rw [show ((0 : Int)).toNat = 0 from rfl] at hx114_2)
              (try rw [show 0 * 3 = 0 from rfl] at hx114_2)
              (try rw [Addr.add_zero'] at hx114_2)
              replace hx114_0 := (HB.out.cell (World.block_lt_of_cell? w _ hx114_0)).trans hx114_0
              replace hx114_1 := (HB.out.cell (World.block_lt_of_cell? w _ hx114_1)).trans hx114_1
              replace hx114_2 := (HB.out.cell (World.block_lt_of_cell? w _ hx114_2)).trans hx114_2
              replace p114 := eq_true p114
              replace q114 := eq_true q114
              go_wp2_with (first | ((with_reducible refine gate_callee (f := 43) rfl ?_); refine goesL_ (some 7) rfl rfl Tryd.func43 (by kernel_rfl) rfl #[.int .i64 ((rd_T81 l0 0).f0), .int .i64 1, .int .i64 6] rfl (by (try simp only [List.map_toArray, List.map_cons, List.map_nil]); first | done | rfl | (simp only [List.length_drop, List.length_take]; rfl)) ?_; (with_reducible refine (spec_l1In.calls ((rd_T81 l0 0).f0) 1 6 true _ A4.out).mono ?_); rintro e w' ⟨rfl, ⟨nd, rfl⟩⟩; refine ⟨_, rfl, ?_⟩))
              go_meet
              case rel => exact ⟨_, (false), (by first | rfl | (simp; done) | (simp [*]; done)), H', ⟨by first | omega | exact Nat.le_refl _⟩, ⟨by repeat (first | (with_reducible first | exact HB.out | apply below_alloc | apply pw_below_drewN | apply below_drew1) | exact HB.out)⟩⟩
          · rw [if_neg c8] at H
            have c8b0 : (((rd_T81 l0 0).f2).toList == ([] : List UInt8)) = false := beq_eq_false_iff_ne.mpr c8
            have c8b1 : (((rd_T81 l0 0).f2).toList != ([] : List UInt8)) = true := bne_iff_ne.mpr c8
            have H' := Aside0.mk H
            clear H
            have p114 : 0 ≤ (0 : Int) := (by omega)
            have q114 : 0 < (l0.length : Int) := of_decide_eq_true (by first | (with_reducible assumption) | assumption)
            obtain ⟨ad114, e114, hx114_0, hx114_1, hx114_2⟩ := at_T81 HR0.out 0 p114 q114
            cases e114
            have qi114 : (0 < l0.length) = True := eq_true (by omega)
            (try rw [show ((0 : Int)).toNat = 0 from rfl] at hx114_0)
            (try rw [show 0 * 3 = 0 from rfl] at hx114_0)
            (try rw [Addr.add_zero'] at hx114_0)
            (try rw [show ((0 : Int)).toNat = 0 from rfl] at hx114_1)
            (try rw [show 0 * 3 = 0 from rfl] at hx114_1)
            (try rw [Addr.add_zero'] at hx114_1)
            (try rw [show ((0 : Int)).toNat = 0 from rfl] at hx114_2)
            (try rw [show 0 * 3 = 0 from rfl] at hx114_2)
            (try rw [Addr.add_zero'] at hx114_2)
            replace hx114_0 := (HB.out.cell (World.block_lt_of_cell? w _ hx114_0)).trans hx114_0
            replace hx114_1 := (HB.out.cell (World.block_lt_of_cell? w _ hx114_1)).trans hx114_1
            replace hx114_2 := (HB.out.cell (World.block_lt_of_cell? w _ hx114_2)).trans hx114_2
            replace p114 := eq_true p114
            replace q114 := eq_true q114
            go_wp2_with (first | ((with_reducible refine gate_callee (f := 43) rfl ?_); refine goesL_ (some 7) rfl rfl Tryd.func43 (by kernel_rfl) rfl #[.int .i64 ((rd_T81 l0 0).f0), .int .i64 1, .int .i64 6] rfl (by (try simp only [List.map_toArray, List.map_cons, List.map_nil]); first | done | rfl | (simp only [List.length_drop, List.length_take]; rfl)) ?_; (with_reducible refine (spec_l1In.calls ((rd_T81 l0 0).f0) 1 6 true _ A4.out).mono ?_); rintro e w' ⟨rfl, ⟨nd, rfl⟩⟩; refine ⟨_, rfl, ?_⟩))
            go_meet
            case rel => exact ⟨_, (true), (by first | rfl | (simp; done) | (simp [*]; done)), H', ⟨by first | omega | exact Nat.le_refl _⟩, ⟨by repeat (first | (with_reducible first | exact HB.out | apply below_alloc | apply pw_below_drewN | apply below_drew1) | exact HB.out)⟩⟩
      · replace c5 := Bool.eq_false_iff.mpr c5
        subst c5
        have H1 : (spec_l8One_in.j0 k l0 true) = some r := by rw [if_neg (show ¬ (false = true) by decide)] at H; exact H
        clear H
        have H := H1
        clear H1
        have H' := Aside0.mk H
        clear H
        have p114 : 0 ≤ (0 : Int) := (by omega)
        have q114 : 0 < (l0.length : Int) := of_decide_eq_true (by first | (with_reducible assumption) | assumption)
        obtain ⟨ad114, e114, hx114_0, hx114_1, hx114_2⟩ := at_T81 HR0.out 0 p114 q114
        cases e114
        have qi114 : (0 < l0.length) = True := eq_true (by omega)
        (try rw [show ((0 : Int)).toNat = 0 from rfl] at hx114_0)
        (try rw [show 0 * 3 = 0 from rfl] at hx114_0)
        (try rw [Addr.add_zero'] at hx114_0)
        (try rw [show ((0 : Int)).toNat = 0 from rfl] at hx114_1)
        (try rw [show 0 * 3 = 0 from rfl] at hx114_1)
        (try rw [Addr.add_zero'] at hx114_1)
        (try rw [show ((0 : Int)).toNat = 0 from rfl] at hx114_2)
        (try rw [show 0 * 3 = 0 from rfl] at hx114_2)
        (try rw [Addr.add_zero'] at hx114_2)
        replace hx114_0 := (HB.out.cell (World.block_lt_of_cell? w _ hx114_0)).trans hx114_0
        replace hx114_1 := (HB.out.cell (World.block_lt_of_cell? w _ hx114_1)).trans hx114_1
        replace hx114_2 := (HB.out.cell (World.block_lt_of_cell? w _ hx114_2)).trans hx114_2
        replace p114 := eq_true p114
        replace q114 := eq_true q114
        go_wp2_with (first | ((with_reducible refine gate_callee (f := 43) rfl ?_); refine goesL_ (some 7) rfl rfl Tryd.func43 (by kernel_rfl) rfl #[.int .i64 ((rd_T81 l0 0).f0), .int .i64 1, .int .i64 6] rfl (by (try simp only [List.map_toArray, List.map_cons, List.map_nil]); first | done | rfl | (simp only [List.length_drop, List.length_take]; rfl)) ?_; (with_reducible refine (spec_l1In.calls ((rd_T81 l0 0).f0) 1 6 false _ A4.out).mono ?_); rintro e w' ⟨rfl, ⟨nd, rfl⟩⟩; refine ⟨_, rfl, ?_⟩))
        go_meet
        case rel => exact ⟨_, (true), (by first | rfl | (simp; done) | (simp [*]; done)), H', ⟨by first | omega | exact Nat.le_refl _⟩, ⟨by repeat (first | (with_reducible first | exact HB.out | apply below_alloc | apply pw_below_drewN | apply below_drew1) | exact HB.out)⟩⟩
    · rw [if_neg c3] at H
      exact absurd H (by simp)
  case rest =>
    clear HC2
    try clear c1
    try clear p1
    try clear q1
    try clear hx1
    try clear qi1
    try clear p2
    try clear c3
    try clear c3b0
    try clear c3b1
    try clear c4
    try clear c5
    try clear c6
    try clear c6b0
    try clear c6b1
    try clear c7
    try clear c7b0
    try clear c7b1
    try clear c8
    try clear c8b0
    try clear c8b1
    try clear c9
    try clear c9b0
    try clear c9b1
    try clear hx114_0
    try clear hx114_1
    try clear hx114_2
    try clear p114
    try clear q114
    obtain ⟨kq, x43_1, rfl, HA, HJ1, HB⟩ := hcut
    cases kq with
    | zero => exact absurd HA.out (by simp [spec_l8One_in.j0])
    | succ kj1 =>
      have H := HA.out
      clear HA
      simp only [spec_l8One_in.j0] at H
      by_cases c10 : x43_1 = true
      · subst c10
        have H1 : (some 1) = some r := by rw [if_pos rfl] at H; exact H
        clear H
        have H := H1
        clear H1
        obtain rfl := Option.some.inj H
        go_wp2
        go_ret
        exact ⟨by first | rfl | (simp [errW_none, errW_some] <;> rfl) | (simp [*, errW_none, errW_some] <;> rfl), by repeat (first | (with_reducible first | exact HB.out | apply below_alloc | apply pw_below_drewN | apply below_drew1) | exact HB.out)⟩
      · replace c10 := Bool.eq_false_iff.mpr c10
        subst c10
        have H1 : (if 0 < (l0.length : Int) then ((spec_l8Num.f kj1 ((rd_T81 l0 0).f0) ((rd_T81 l0 0).f1) ((rd_T81 l0 0).f2)).bind fun t117 => (if t117 = true then ((spec_l8Text.f kj1 ((rd_T81 l0 0).f2)).bind fun t119 => (if t119 = true then (some 0) else (some 5))) else (some 3))) else (none)) = some r := by rw [if_neg (show ¬ (false = true) by decide)] at H; exact H
        clear H
        have H := H1
        clear H1
        by_cases c11 : 0 < (l0.length : Int)
        · rw [if_pos c11] at H
          have c11b0 : decide (0 < (l0.length : Int)) = true := decide_eq_true c11
          have c11b1 : decide (0 < l0.length) = true := decide_eq_true (by omega)
          clear c11
          replace H := Option.bind_eq_some_iff.mp H
          obtain ⟨t117, A120, H⟩ := H
          replace H : (if t117 = true then ((spec_l8Text.f kj1 ((rd_T81 l0 0).f2)).bind fun t119 => (if t119 = true then (some 0) else (some 5))) else (some 3)) = some r := H
          have A12 := Aside0.mk A120
          clear A120
          by_cases c13 : t117 = true
          · subst c13
            have H1 : ((spec_l8Text.f kj1 ((rd_T81 l0 0).f2)).bind fun t119 => (if t119 = true then (some 0) else (some 5))) = some r := by rw [if_pos rfl] at H; exact H
            clear H
            have H := H1
            clear H1
            replace H := Option.bind_eq_some_iff.mp H
            obtain ⟨t119, A140, H⟩ := H
            replace H : (if t119 = true then (some 0) else (some 5)) = some r := H
            have A14 := Aside0.mk A140
            clear A140
            by_cases c15 : t119 = true
            · subst c15
              have H1 : (some 0) = some r := by rw [if_pos rfl] at H; exact H
              clear H
              have H := H1
              clear H1
              obtain rfl := Option.some.inj H
              have p116 : 0 ≤ (0 : Int) := (by omega)
              have q116 : 0 < (l0.length : Int) := of_decide_eq_true (by first | (with_reducible assumption) | assumption)
              obtain ⟨ad116, e116, hx116_0, hx116_1, hx116_2⟩ := at_T81 HR0.out 0 p116 q116
              cases e116
              have qi116 : (0 < l0.length) = True := eq_true (by omega)
              (try rw [show ((0 : Int)).toNat = 0 from rfl] at hx116_0)
              (try rw [show 0 * 3 = 0 from rfl] at hx116_0)
              (try rw [Addr.add_zero'] at hx116_0)
              (try rw [show ((0 : Int)).toNat = 0 from rfl] at hx116_1)
              (try rw [show 0 * 3 = 0 from rfl] at hx116_1)
              (try rw [Addr.add_zero'] at hx116_1)
              (try rw [show ((0 : Int)).toNat = 0 from rfl] at hx116_2)
              (try rw [show 0 * 3 = 0 from rfl] at hx116_2)
              (try rw [Addr.add_zero'] at hx116_2)
              replace hx116_0 := (HB.out.cell (World.block_lt_of_cell? w _ hx116_0)).trans hx116_0
              replace hx116_1 := (HB.out.cell (World.block_lt_of_cell? w _ hx116_1)).trans hx116_1
              replace hx116_2 := (HB.out.cell (World.block_lt_of_cell? w _ hx116_2)).trans hx116_2
              replace p116 := eq_true p116
              replace q116 := eq_true q116
              go_wp2_with (first | ((with_reducible refine gate_callee (f := 99) rfl ?_); refine goesL_ (some 45) rfl rfl Tryd.func99 (by kernel_rfl) rfl #[.pointer (some _)] rfl (by (try simp only [List.map_toArray, List.map_cons, List.map_nil]); first | done | rfl | (simp only [List.length_drop, List.length_take]; rfl)) ?_; (refine Calls.mono (spec_l8Num.calls kj1 ((rd_T81 l0 0).f0) ((rd_T81 l0 0).f1) ((rd_T81 l0 0).f2) true _ A12.out (hpp0_0 := by first | (with_unfolding_all assumption) | (dsimp only; assumption) | (dsimp only [Nat.zero_add]; exact (blk_cell (Aside0.out (by assumption)) _).trans rfl) | (go_simp; done)) (hpp0_1 := by first | (with_unfolding_all assumption) | (dsimp only; assumption) | (dsimp only [Nat.zero_add]; exact (blk_cell (Aside0.out (by assumption)) _).trans rfl) | (go_simp; done)) (hpp0_2 := by first | (with_unfolding_all assumption) | (dsimp only; assumption) | (dsimp only [Nat.zero_add]; exact (blk_cell (Aside0.out (by assumption)) _).trans rfl) | (go_simp; done))) ?_); rintro e w16 ⟨rfl, hb⟩; refine ⟨_, rfl, ?_⟩; have n0_ := Aside0.mk (below_step (by repeat (first | (with_reducible first | exact HB.out | apply below_alloc | apply pw_below_drewN | apply below_drew1) | exact HB.out)) hb); clear HB; have HB := n0_; clear n0_; (try clear hb); (try clear hb2); (try clear hk); (try clear hi); have p118 : 0 ≤ (0 : Int) := (by omega); have q118 : 0 < (l0.length : Int) := of_decide_eq_true (by first | (with_reducible assumption) | assumption); obtain ⟨ad118, e118, hx118_0, hx118_1, hx118_2⟩ := at_T81 HR0.out 0 p118 q118; obtain rfl : ad116 = ad118 := (by injection e118); have qi118 : (0 < l0.length) = True := eq_true (by omega); (try rw [show ((0 : Int)).toNat = 0 from rfl] at hx118_0); (try rw [show 0 * 3 = 0 from rfl] at hx118_0); (try rw [Addr.add_zero'] at hx118_0); (try rw [show ((0 : Int)).toNat = 0 from rfl] at hx118_1); (try rw [show 0 * 3 = 0 from rfl] at hx118_1); (try rw [Addr.add_zero'] at hx118_1); (try rw [show ((0 : Int)).toNat = 0 from rfl] at hx118_2); (try rw [show 0 * 3 = 0 from rfl] at hx118_2); (try rw [Addr.add_zero'] at hx118_2); replace hx118_0 := (HB.out.cell (World.block_lt_of_cell? w _ hx118_0)).trans hx118_0; replace hx118_1 := (HB.out.cell (World.block_lt_of_cell? w _ hx118_1)).trans hx118_1; replace hx118_2 := (HB.out.cell (World.block_lt_of_cell? w _ hx118_2)).trans hx118_2; replace p118 := eq_true p118; replace q118 := eq_true q118) | ((with_reducible refine gate_callee (f := 100) rfl ?_); refine goesL_ (some 51) rfl rfl Tryd.func100 (by kernel_rfl) rfl #[.string ((rd_T81 l0 0).f2)] rfl (by (try simp only [List.map_toArray, List.map_cons, List.map_nil]); first | done | rfl | (simp only [List.length_drop, List.length_take]; rfl)) ?_; (with_reducible refine (spec_l8Text.calls kj1 ((rd_T81 l0 0).f2) true _ A14.out).mono ?_); rintro e w' ⟨rfl, ⟨nd, rfl⟩⟩; refine ⟨_, rfl, ?_⟩))
              go_ret
              exact ⟨by first | rfl | (simp [errW_none, errW_some] <;> rfl) | (simp [*, errW_none, errW_some] <;> rfl), by repeat (first | (with_reducible first | exact HB.out | apply below_alloc | apply pw_below_drewN | apply below_drew1) | exact HB.out)⟩
            · replace c15 := Bool.eq_false_iff.mpr c15
              subst c15
              have H1 : (some 5) = some r := by rw [if_neg (show ¬ (false = true) by decide)] at H; exact H
              clear H
              have H := H1
              clear H1
              obtain rfl := Option.some.inj H
              have p116 : 0 ≤ (0 : Int) := (by omega)
              have q116 : 0 < (l0.length : Int) := of_decide_eq_true (by first | (with_reducible assumption) | assumption)
              obtain ⟨ad116, e116, hx116_0, hx116_1, hx116_2⟩ := at_T81 HR0.out 0 p116 q116
              cases e116
              have qi116 : (0 < l0.length) = True := eq_true (by omega)
              (try rw [show ((0 : Int)).toNat = 0 from rfl] at hx116_0)
              (try rw [show 0 * 3 = 0 from rfl] at hx116_0)
              (try rw [Addr.add_zero'] at hx116_0)
              (try rw [show ((0 : Int)).toNat = 0 from rfl] at hx116_1)
              (try rw [show 0 * 3 = 0 from rfl] at hx116_1)
              (try rw [Addr.add_zero'] at hx116_1)
              (try rw [show ((0 : Int)).toNat = 0 from rfl] at hx116_2)
              (try rw [show 0 * 3 = 0 from rfl] at hx116_2)
              (try rw [Addr.add_zero'] at hx116_2)
              replace hx116_0 := (HB.out.cell (World.block_lt_of_cell? w _ hx116_0)).trans hx116_0
              replace hx116_1 := (HB.out.cell (World.block_lt_of_cell? w _ hx116_1)).trans hx116_1
              replace hx116_2 := (HB.out.cell (World.block_lt_of_cell? w _ hx116_2)).trans hx116_2
              replace p116 := eq_true p116
              replace q116 := eq_true q116
              go_wp2_with (first | ((with_reducible refine gate_callee (f := 99) rfl ?_); refine goesL_ (some 45) rfl rfl Tryd.func99 (by kernel_rfl) rfl #[.pointer (some _)] rfl (by (try simp only [List.map_toArray, List.map_cons, List.map_nil]); first | done | rfl | (simp only [List.length_drop, List.length_take]; rfl)) ?_; (refine Calls.mono (spec_l8Num.calls kj1 ((rd_T81 l0 0).f0) ((rd_T81 l0 0).f1) ((rd_T81 l0 0).f2) true _ A12.out (hpp0_0 := by first | (with_unfolding_all assumption) | (dsimp only; assumption) | (dsimp only [Nat.zero_add]; exact (blk_cell (Aside0.out (by assumption)) _).trans rfl) | (go_simp; done)) (hpp0_1 := by first | (with_unfolding_all assumption) | (dsimp only; assumption) | (dsimp only [Nat.zero_add]; exact (blk_cell (Aside0.out (by assumption)) _).trans rfl) | (go_simp; done)) (hpp0_2 := by first | (with_unfolding_all assumption) | (dsimp only; assumption) | (dsimp only [Nat.zero_add]; exact (blk_cell (Aside0.out (by assumption)) _).trans rfl) | (go_simp; done))) ?_); rintro e w17 ⟨rfl, hb⟩; refine ⟨_, rfl, ?_⟩; have n0_ := Aside0.mk (below_step (by repeat (first | (with_reducible first | exact HB.out | apply below_alloc | apply pw_below_drewN | apply below_drew1) | exact HB.out)) hb); clear HB; have HB := n0_; clear n0_; (try clear hb); (try clear hb2); (try clear hk); (try clear hi); have p118 : 0 ≤ (0 : Int) := (by omega); have q118 : 0 < (l0.length : Int) := of_decide_eq_true (by first | (with_reducible assumption) | assumption); obtain ⟨ad118, e118, hx118_0, hx118_1, hx118_2⟩ := at_T81 HR0.out 0 p118 q118; obtain rfl : ad116 = ad118 := (by injection e118); have qi118 : (0 < l0.length) = True := eq_true (by omega); (try rw [show ((0 : Int)).toNat = 0 from rfl] at hx118_0); (try rw [show 0 * 3 = 0 from rfl] at hx118_0); (try rw [Addr.add_zero'] at hx118_0); (try rw [show ((0 : Int)).toNat = 0 from rfl] at hx118_1); (try rw [show 0 * 3 = 0 from rfl] at hx118_1); (try rw [Addr.add_zero'] at hx118_1); (try rw [show ((0 : Int)).toNat = 0 from rfl] at hx118_2); (try rw [show 0 * 3 = 0 from rfl] at hx118_2); (try rw [Addr.add_zero'] at hx118_2); replace hx118_0 := (HB.out.cell (World.block_lt_of_cell? w _ hx118_0)).trans hx118_0; replace hx118_1 := (HB.out.cell (World.block_lt_of_cell? w _ hx118_1)).trans hx118_1; replace hx118_2 := (HB.out.cell (World.block_lt_of_cell? w _ hx118_2)).trans hx118_2; replace p118 := eq_true p118; replace q118 := eq_true q118) | ((with_reducible refine gate_callee (f := 100) rfl ?_); refine goesL_ (some 51) rfl rfl Tryd.func100 (by kernel_rfl) rfl #[.string ((rd_T81 l0 0).f2)] rfl (by (try simp only [List.map_toArray, List.map_cons, List.map_nil]); first | done | rfl | (simp only [List.length_drop, List.length_take]; rfl)) ?_; (with_reducible refine (spec_l8Text.calls kj1 ((rd_T81 l0 0).f2) false _ A14.out).mono ?_); rintro e w' ⟨rfl, ⟨nd, rfl⟩⟩; refine ⟨_, rfl, ?_⟩))
              go_ret
              exact ⟨by first | rfl | (simp [errW_none, errW_some] <;> rfl) | (simp [*, errW_none, errW_some] <;> rfl), by repeat (first | (with_reducible first | exact HB.out | apply below_alloc | apply pw_below_drewN | apply below_drew1) | exact HB.out)⟩
          · replace c13 := Bool.eq_false_iff.mpr c13
            subst c13
            have H1 : (some 3) = some r := by rw [if_neg (show ¬ (false = true) by decide)] at H; exact H
            clear H
            have H := H1
            clear H1
            obtain rfl := Option.some.inj H
            have p116 : 0 ≤ (0 : Int) := (by omega)
            have q116 : 0 < (l0.length : Int) := of_decide_eq_true (by first | (with_reducible assumption) | assumption)
            obtain ⟨ad116, e116, hx116_0, hx116_1, hx116_2⟩ := at_T81 HR0.out 0 p116 q116
            cases e116
            have qi116 : (0 < l0.length) = True := eq_true (by omega)
            (try rw [show ((0 : Int)).toNat = 0 from rfl] at hx116_0)
            (try rw [show 0 * 3 = 0 from rfl] at hx116_0)
            (try rw [Addr.add_zero'] at hx116_0)
            (try rw [show ((0 : Int)).toNat = 0 from rfl] at hx116_1)
            (try rw [show 0 * 3 = 0 from rfl] at hx116_1)
            (try rw [Addr.add_zero'] at hx116_1)
            (try rw [show ((0 : Int)).toNat = 0 from rfl] at hx116_2)
            (try rw [show 0 * 3 = 0 from rfl] at hx116_2)
            (try rw [Addr.add_zero'] at hx116_2)
            replace hx116_0 := (HB.out.cell (World.block_lt_of_cell? w _ hx116_0)).trans hx116_0
            replace hx116_1 := (HB.out.cell (World.block_lt_of_cell? w _ hx116_1)).trans hx116_1
            replace hx116_2 := (HB.out.cell (World.block_lt_of_cell? w _ hx116_2)).trans hx116_2
            replace p116 := eq_true p116
            replace q116 := eq_true q116
            go_wp2_with (first | ((with_reducible refine gate_callee (f := 99) rfl ?_); refine goesL_ (some 45) rfl rfl Tryd.func99 (by kernel_rfl) rfl #[.pointer (some _)] rfl (by (try simp only [List.map_toArray, List.map_cons, List.map_nil]); first | done | rfl | (simp only [List.length_drop, List.length_take]; rfl)) ?_; (refine Calls.mono (spec_l8Num.calls kj1 ((rd_T81 l0 0).f0) ((rd_T81 l0 0).f1) ((rd_T81 l0 0).f2) false _ A12.out (hpp0_0 := by first | (with_unfolding_all assumption) | (dsimp only; assumption) | (dsimp only [Nat.zero_add]; exact (blk_cell (Aside0.out (by assumption)) _).trans rfl) | (go_simp; done)) (hpp0_1 := by first | (with_unfolding_all assumption) | (dsimp only; assumption) | (dsimp only [Nat.zero_add]; exact (blk_cell (Aside0.out (by assumption)) _).trans rfl) | (go_simp; done)) (hpp0_2 := by first | (with_unfolding_all assumption) | (dsimp only; assumption) | (dsimp only [Nat.zero_add]; exact (blk_cell (Aside0.out (by assumption)) _).trans rfl) | (go_simp; done))) ?_); rintro e w18 ⟨rfl, hb⟩; refine ⟨_, rfl, ?_⟩; have n0_ := Aside0.mk (below_step (by repeat (first | (with_reducible first | exact HB.out | apply below_alloc | apply pw_below_drewN | apply below_drew1) | exact HB.out)) hb); clear HB; have HB := n0_; clear n0_; (try clear hb); (try clear hb2); (try clear hk); (try clear hi)))
            go_ret
            exact ⟨by first | rfl | (simp [errW_none, errW_some] <;> rfl) | (simp [*, errW_none, errW_some] <;> rfl), by repeat (first | (with_reducible first | exact HB.out | apply below_alloc | apply pw_below_drewN | apply below_drew1) | exact HB.out)⟩
        · rw [if_neg c11] at H
          exact absurd H (by simp)

/-! ### spec_l8One: spec_l8One_in with its records by value; the contract of the pointer -/
def spec_l8One.f (k : Nat) (a0_0 : Int) (a0_1 : Int) (a0_2 : ByteArray) : Option (Int) := spec_l8One_in.f k [(⟨a0_0, a0_1, a0_2⟩ : S81)]
theorem spec_l8One.mono : ∀ (a0_0 : Int) (a0_1 : Int) (a0_2 : ByteArray) (k : Nat), LeO (spec_l8One.f k a0_0 a0_1 a0_2) (spec_l8One.f (k + 1) a0_0 a0_1 a0_2) := fun a0_0 a0_1 a0_2 k => spec_l8One_in.mono [(⟨a0_0, a0_1, a0_2⟩ : S81)] k
set_option maxHeartbeats 8000000 in
theorem spec_l8One.calls (k : Nat) (a0_0 : Int) (a0_1 : Int) (a0_2 : ByteArray) (r : Int) (w : World) (h : spec_l8One.f k a0_0 a0_1 a0_2 = some r) {pp0 : Addr} (hpp0_0 : w.cell? pp0 = some (.int .i64 a0_0)) (hpp0_1 : w.cell? ⟨pp0.block, pp0.off + 1, none⟩ = some (.int .i64 a0_1)) (hpp0_2 : w.cell? ⟨pp0.block, pp0.off + 2, none⟩ = some (.string a0_2)) :
    Calls Tryd.prog 80 #[.pointer (some pp0)] w fun e w' => e = .returned (.int .i64 r) ∧ Below w.heap.size w w' := by
  have o0 : Kd.C k81 w (some pp0) 1 [(⟨a0_0, a0_1, a0_2⟩ : S81)] := by
    refine ⟨rfl, by decide, fun _ => ⟨pp0, rfl, fun j p hj => ?_⟩⟩
    cases j with
    | succ j => simp at hj
    | zero =>
      obtain rfl : (⟨a0_0, a0_1, a0_2⟩ : S81) = p := by simpa using hj
      refine ⟨_, rfl, k81_mk w _, fun i u hu => ?_⟩
      match i, hu with
      | 0, hu => obtain rfl := Option.some.inj hu; exact hpp0_0
      | 1, hu => obtain rfl := Option.some.inj hu; exact hpp0_1
      | 2, hu => obtain rfl := Option.some.inj hu; exact hpp0_2
  exact spec_l8One_in.calls k (some pp0) 1 [(⟨a0_0, a0_1, a0_2⟩ : S81)] r w o0 (Nat.le_refl 1) h

end Go.Proofs.YthjlbpgiaehjnaaDoor.QFnExactPrintVals
