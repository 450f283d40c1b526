-- written by this session's program (wip/tools/myprint.py)
import Derived.Test.YthjlbpgiaehjnaaQFnExactTxSumx0
import Derived.Test.YthjlbpgiaehjnaaQFnExactTxSumx6
import Derived.Test.YthjlbpgiaehjnaaQFnExactTxSumx7
namespace Go.Proofs.Ythjlbpgiaehjnaa.QFnExactTxSum
open Go.RowKit Go.Proofs.YthjlbpgiaehjnaaW.PrintWords Go.Proofs.YthjlbpgiaehjnaaW.PrintLast Go.Proofs.YthjlbpgiaehjnaaW.PrintMore
attribute [local go_sem] max2_int min2_int max_two min_two max_three min_three max_four min_four   -- for this text's walks alone
set_option linter.unusedVariables false
set_option linter.unusedSimpArgs false

/-! ### spec_l3Outs: function 102 -/
def spec_l3Outs.l0 : Nat → List (S86) → Int → Int → Option (Int)
  | 0, _, _, _ => none
  | k + 1, x0, x3, x4 => if x4 < (x0.length : Int) then (if 0 ≤ x4 then ((spec_l1Amount.f ((rd_T86 x0 x4).f0)).bind fun t260 => (if t260 = true then ((spec_l2Fault.f k ((rd_T86 x0 x4).f1)).bind fun t262 => (if t262 = 0 then (spec_l3Outs.l0 k x0 (wrap64 (x3 + ((rd_T86 x0 x4).f0))) (wrap64 (x4 + 1))) else (some t262))) else (some 3))) else (none)) else ((spec_l1Amount.f x3).bind fun t258 => (if t258 = true then (some 0) else (some 7)))
def spec_l3Outs.f (k : Nat) (l0 : List (S86)) : Option (Int) := spec_l3Outs.l0 k l0 0 0
theorem spec_l3Outs.mono_l : ∀ k, (∀ y0 y1 y2, LeO (spec_l3Outs.l0 k y0 y1 y2) (spec_l3Outs.l0 (k + 1) y0 y1 y2))
  | 0 => fun _ _ _ r h => by simp [spec_l3Outs.l0] at h
  | k + 1 => by
    have ih0 := spec_l3Outs.mono_l k
    · intro y0 y1 y2
      unfold spec_l3Outs.l0
      repeat' first
      | (with_reducible exact ih0 _ _ _)
      | (with_reducible exact spec_l2Fault.mono _ _)
      | (with_reducible exact LeO.refl _)
      | (with_reducible exact LeO.none _)
      | (with_reducible refine LeO.ite ?_ ?_)
      | (with_reducible refine LeO.bind ?_ (fun _ => ?_))
      | exact ih0 _ _ _
      | exact spec_l2Fault.mono _ _
      | exact LeO.none _
      | refine LeO.ite ?_ ?_
      | refine LeO.bind ?_ (fun _ => ?_)
theorem spec_l3Outs.mono : ∀ a0 k, LeO (spec_l3Outs.f k a0) (spec_l3Outs.f (k + 1) a0) := by
  intro a0 k
  have ih0 := spec_l3Outs.mono_l k
  unfold spec_l3Outs.f
  repeat' first
      | (with_reducible exact ih0 _ _ _)
      | (with_reducible exact spec_l2Fault.mono _ _)
      | (with_reducible exact LeO.refl _)
      | (with_reducible exact LeO.none _)
      | (with_reducible refine LeO.ite ?_ ?_)
      | (with_reducible refine LeO.bind ?_ (fun _ => ?_))
      | exact ih0 _ _ _
      | exact spec_l2Fault.mono _ _
      | exact LeO.none _
      | refine LeO.ite ?_ ?_
      | refine LeO.bind ?_ (fun _ => ?_)
set_option maxHeartbeats 8000000 in
set_option maxRecDepth 100000 in
theorem spec_l3Outs.calls (k : Nat) (A0 : Option Addr) (c0 : Nat) (l0 : List (S86)) (r : Int) (w : World) (hr0 : Kd.C k86 w A0 l0.length l0) (hc0 : l0.length ≤ c0) (h : spec_l3Outs.f k l0 = some r) :
    Calls Try.prog 102 #[.slice A0 l0.length c0] w fun e w' => e = .returned (.int .i64 r) ∧ Drawn0 w w' := by
  have HR0 := Aside0.mk hr0
  have HC0 := Aside0.mk hc0
  clear hr0 hc0
  have H : (spec_l3Outs.l0 k l0 0 0) = some r := h
  clear h
  have H' := Aside0.mk H
  clear H
  go_enter Try.func102, Try.ntmps102
  go_wp2
  go_loopg [3, 4] k (fun kq v3 v4 w' => ∃ (x3_1 : Int) (x4_1 : Int), v3 = .int .i64 x3_1 ∧ v4 = .int .i64 x4_1 ∧ Aside0 (spec_l3Outs.l0 kq l0 x3_1 x4_1 = some r) ∧ Aside0 (kq ≤ k) ∧ Drawn0 w w')
  case atStart => exact ⟨(0), (0), (by first | rfl | (simp; done) | (simp [*]; done)), (by first | rfl | (simp; done) | (simp [*]; done)), H', ⟨Nat.le_refl _⟩, by repeat (first | exact Drawn0.refl _ | apply Drawn0.step)⟩
  case round =>
    clear H'
    try clear c1
    obtain ⟨x3_1, x4_1, rfl, rfl, HA, HK1, ⟨m1, rfl⟩⟩ := hrel
    cases gk with
    | zero => exact absurd HA.out (by simp [spec_l3Outs.l0])
    | succ k1 =>
      have H := HA.out
      clear HA
      simp only [spec_l3Outs.l0] at H
      by_cases c2 : x4_1 < (l0.length : Int)
      · rw [if_pos c2] at H
        have c2b0 : decide (x4_1 < (l0.length : Int)) = true := decide_eq_true c2
        clear c2
        by_cases c3 : 0 ≤ x4_1
        · rw [if_pos c3] at H
          have c3b0 : decide (0 ≤ x4_1) = true := decide_eq_true c3
          clear c3
          replace H := Option.bind_eq_some_iff.mp H
          obtain ⟨t260, A40, H⟩ := H
          replace H : (if t260 = true then ((spec_l2Fault.f k1 ((rd_T86 l0 x4_1).f1)).bind fun t262 => (if t262 = 0 then (spec_l3Outs.l0 k1 l0 (wrap64 (x3_1 + ((rd_T86 l0 x4_1).f0))) (wrap64 (x4_1 + 1))) else (some t262))) else (some 3)) = some r := H
          have A4 := Aside0.mk A40
          clear A40
          by_cases c5 : t260 = true
          · subst c5
            have H1 : ((spec_l2Fault.f k1 ((rd_T86 l0 x4_1).f1)).bind fun t262 => (if t262 = 0 then (spec_l3Outs.l0 k1 l0 (wrap64 (x3_1 + ((rd_T86 l0 x4_1).f0))) (wrap64 (x4_1 + 1))) else (some t262))) = some r := by rw [if_pos rfl] at H; exact H
            clear H
            have H := H1
            clear H1
            replace H := Option.bind_eq_some_iff.mp H
            obtain ⟨t262, A60, H⟩ := H
            replace H : (if t262 = 0 then (spec_l3Outs.l0 k1 l0 (wrap64 (x3_1 + ((rd_T86 l0 x4_1).f0))) (wrap64 (x4_1 + 1))) else (some t262)) = some r := H
            have A6 := Aside0.mk A60
            clear A60
            by_cases c7 : t262 = 0
            · rw [if_pos c7] at H
              have c7b0 : (t262 == 0) = true := beq_iff_eq.mpr c7
              have c7b1 : (t262 != 0) = false := bne_eq_false_iff_eq.mpr c7
              clear c7
              have H' := Aside0.mk H
              clear H
              have p259 : 0 ≤ (x4_1 : Int) := of_decide_eq_true (by first | (with_reducible assumption) | assumption)
              have q259 : x4_1 < (l0.length : Int) := of_decide_eq_true (by first | (with_reducible assumption) | assumption)
              obtain ⟨ad259, A259_1, c259_1, e259, hx259_0, hx259_1, hl259_1, hi259_1⟩ := at_T86 HR0.out x4_1 p259 q259
              cases e259
              have HR259_1 := Aside0.mk hi259_1
              have HC259_1 := Aside0.mk hl259_1
              clear hi259_1 hl259_1
              replace p259 := eq_true p259
              replace q259 := eq_true q259
              go_wp2_with (first | ((with_reducible refine gate_callee (f := 138) rfl ?_); refine goesL_ (some 17) rfl rfl Try.func138 (by kernel_rfl) rfl #[.int .i64 ((rd_T86 l0 x4_1).f0)] rfl (by (try simp only [List.map_toArray, List.map_cons, List.map_nil]); first | done | rfl | (simp only [List.length_drop, List.length_take]; rfl)) ?_; (with_reducible refine (spec_l1Amount.calls ((rd_T86 l0 x4_1).f0) true _ A4.out).mono ?_); rintro e w' ⟨rfl, ⟨nd, rfl⟩⟩; refine ⟨_, rfl, ?_⟩; have p261 : 0 ≤ (x4_1 : Int) := of_decide_eq_true (by first | (with_reducible assumption) | assumption); have q261 : x4_1 < (l0.length : Int) := of_decide_eq_true (by first | (with_reducible assumption) | assumption); obtain ⟨ad261, A261_1, c261_1, e261, hx261_0, hx261_1, hl261_1, hi261_1⟩ := at_T86 HR0.out x4_1 p261 q261; obtain rfl : ad259 = ad261 := (by injection e261); have HR261_1 := Aside0.mk hi261_1; have HC261_1 := Aside0.mk hl261_1; clear hi261_1 hl261_1; replace p261 := eq_true p261; replace q261 := eq_true q261; have ea_ := Option.some.inj (hx259_1.symm.trans hx261_1); injection ea_ with ea_ en_ ec_; subst ea_; subst ec_; clear en_) | ((with_reducible refine gate_callee (f := 139) rfl ?_); refine goesL_ (some 24) rfl rfl Try.func139 (by kernel_rfl) rfl #[.slice A259_1 ((rd_T86 l0 x4_1).f1).length c259_1] rfl (by (try simp only [List.map_toArray, List.map_cons, List.map_nil]); first | done | rfl | (simp only [List.length_drop, List.length_take]; rfl)) ?_; (with_reducible refine (spec_l2Fault.calls k1 _ _ ((rd_T86 l0 x4_1).f1) t262 _ ?side1 ?side2 A6.out).mono ?_); (case side1 => repeat (first | exact HR261_1.out | (with_reducible refine Kd.C_alloc ?_ _) | (with_reducible refine Kd.C_drewN ?_ _) | (with_reducible refine Kd.C_drew ?_))); (case side2 => exact HC261_1.out); rintro e w' ⟨rfl, ⟨nd, rfl⟩⟩; refine ⟨_, rfl, ?_⟩; have p263 : 0 ≤ (x4_1 : Int) := of_decide_eq_true (by first | (with_reducible assumption) | assumption); have q263 : x4_1 < (l0.length : Int) := of_decide_eq_true (by first | (with_reducible assumption) | assumption); obtain ⟨ad263, A263_1, c263_1, e263, hx263_0, hx263_1, hl263_1, hi263_1⟩ := at_T86 HR0.out x4_1 p263 q263; obtain rfl : ad259 = ad263 := (by injection e263); have HR263_1 := Aside0.mk hi263_1; have HC263_1 := Aside0.mk hl263_1; clear hi263_1 hl263_1; replace p263 := eq_true p263; replace q263 := eq_true q263; have ea_ := Option.some.inj (hx259_1.symm.trans hx263_1); injection ea_ with ea_ en_ ec_; subst ea_; subst ec_; clear en_))
              go_roundg k1
              case measure => have := HK1.out; omega
              case rel => exact ⟨(wrap64 (x3_1 + ((rd_T86 l0 x4_1).f0))), (wrap64 (x4_1 + 1)), (by first | rfl | (simp; done) | (simp [*]; done)), (by first | rfl | (simp; done) | (simp [*]; done)), H', ⟨by have := HK1.out; omega⟩, by repeat (first | exact Drawn0.refl _ | apply Drawn0.step)⟩
            · rw [if_neg c7] at H
              have c7b0 : (t262 == 0) = false := beq_eq_false_iff_ne.mpr c7
              have c7b1 : (t262 != 0) = true := bne_iff_ne.mpr c7
              obtain rfl := Option.some.inj H
              have p259 : 0 ≤ (x4_1 : Int) := of_decide_eq_true (by first | (with_reducible assumption) | assumption)
              have q259 : x4_1 < (l0.length : Int) := of_decide_eq_true (by first | (with_reducible assumption) | assumption)
              obtain ⟨ad259, A259_1, c259_1, e259, hx259_0, hx259_1, hl259_1, hi259_1⟩ := at_T86 HR0.out x4_1 p259 q259
              cases e259
              have HR259_1 := Aside0.mk hi259_1
              have HC259_1 := Aside0.mk hl259_1
              clear hi259_1 hl259_1
              replace p259 := eq_true p259
              replace q259 := eq_true q259
              go_wp2_with (first | ((with_reducible refine gate_callee (f := 138) rfl ?_); refine goesL_ (some 17) rfl rfl Try.func138 (by kernel_rfl) rfl #[.int .i64 ((rd_T86 l0 x4_1).f0)] rfl (by (try simp only [List.map_toArray, List.map_cons, List.map_nil]); first | done | rfl | (simp only [List.length_drop, List.length_take]; rfl)) ?_; (with_reducible refine (spec_l1Amount.calls ((rd_T86 l0 x4_1).f0) true _ A4.out).mono ?_); rintro e w' ⟨rfl, ⟨nd, rfl⟩⟩; refine ⟨_, rfl, ?_⟩; have p261 : 0 ≤ (x4_1 : Int) := of_decide_eq_true (by first | (with_reducible assumption) | assumption); have q261 : x4_1 < (l0.length : Int) := of_decide_eq_true (by first | (with_reducible assumption) | assumption); obtain ⟨ad261, A261_1, c261_1, e261, hx261_0, hx261_1, hl261_1, hi261_1⟩ := at_T86 HR0.out x4_1 p261 q261; obtain rfl : ad259 = ad261 := (by injection e261); have HR261_1 := Aside0.mk hi261_1; have HC261_1 := Aside0.mk hl261_1; clear hi261_1 hl261_1; replace p261 := eq_true p261; replace q261 := eq_true q261; have ea_ := Option.some.inj (hx259_1.symm.trans hx261_1); injection ea_ with ea_ en_ ec_; subst ea_; subst ec_; clear en_) | ((with_reducible refine gate_callee (f := 139) rfl ?_); refine goesL_ (some 24) rfl rfl Try.func139 (by kernel_rfl) rfl #[.slice A259_1 ((rd_T86 l0 x4_1).f1).length c259_1] rfl (by (try simp only [List.map_toArray, List.map_cons, List.map_nil]); first | done | rfl | (simp only [List.length_drop, List.length_take]; rfl)) ?_; (with_reducible refine (spec_l2Fault.calls k1 _ _ ((rd_T86 l0 x4_1).f1) t262 _ ?side1 ?side2 A6.out).mono ?_); (case side1 => repeat (first | exact HR261_1.out | (with_reducible refine Kd.C_alloc ?_ _) | (with_reducible refine Kd.C_drewN ?_ _) | (with_reducible refine Kd.C_drew ?_))); (case side2 => exact HC261_1.out); rintro e w' ⟨rfl, ⟨nd, rfl⟩⟩; refine ⟨_, rfl, ?_⟩))
              go_ret
              exact ⟨by first | rfl | (simp; done) | (simp [*]; done), by repeat (first | exact Drawn0.refl _ | apply Drawn0.step)⟩
          · replace c5 := Bool.eq_false_iff.mpr c5
            subst c5
            have H1 : (some 3) = some r := by rw [if_neg (show ¬ (false = true) by decide)] at H; exact H
            clear H
            have H := H1
            clear H1
            obtain rfl := Option.some.inj H
            have p259 : 0 ≤ (x4_1 : Int) := of_decide_eq_true (by first | (with_reducible assumption) | assumption)
            have q259 : x4_1 < (l0.length : Int) := of_decide_eq_true (by first | (with_reducible assumption) | assumption)
            obtain ⟨ad259, A259_1, c259_1, e259, hx259_0, hx259_1, hl259_1, hi259_1⟩ := at_T86 HR0.out x4_1 p259 q259
            cases e259
            have HR259_1 := Aside0.mk hi259_1
            have HC259_1 := Aside0.mk hl259_1
            clear hi259_1 hl259_1
            replace p259 := eq_true p259
            replace q259 := eq_true q259
            go_wp2_with (first | ((with_reducible refine gate_callee (f := 138) rfl ?_); refine goesL_ (some 17) rfl rfl Try.func138 (by kernel_rfl) rfl #[.int .i64 ((rd_T86 l0 x4_1).f0)] rfl (by (try simp only [List.map_toArray, List.map_cons, List.map_nil]); first | done | rfl | (simp only [List.length_drop, List.length_take]; rfl)) ?_; (with_reducible refine (spec_l1Amount.calls ((rd_T86 l0 x4_1).f0) false _ A4.out).mono ?_); rintro e w' ⟨rfl, ⟨nd, rfl⟩⟩; refine ⟨_, rfl, ?_⟩))
            go_ret
            exact ⟨by first | rfl | (simp; done) | (simp [*]; done), by repeat (first | exact Drawn0.refl _ | apply Drawn0.step)⟩
        · rw [if_neg c3] at H
          exact absurd H (by simp)
      · rw [if_neg c2] at H
        have c2b0 : decide (x4_1 < (l0.length : Int)) = false := decide_eq_false c2
        clear c2
        replace H := Option.bind_eq_some_iff.mp H
        obtain ⟨t258, A80, H⟩ := H
        replace H : (if t258 = true then (some 0) else (some 7)) = some r := H
        have A8 := Aside0.mk A80
        clear A80
        by_cases c9 : t258 = true
        · subst c9
          have H1 : (some 0) = some r := by rw [if_pos rfl] at H; exact H
          clear H
          have H := H1
          clear H1
          obtain rfl := Option.some.inj H
          go_wp2_with (first | ((with_reducible refine gate_callee (f := 138) rfl ?_); refine goesL_ (some 36) rfl rfl Try.func138 (by kernel_rfl) rfl #[.int .i64 x3_1] rfl (by (try simp only [List.map_toArray, List.map_cons, List.map_nil]); first | done | rfl | (simp only [List.length_drop, List.length_take]; rfl)) ?_; (with_reducible refine (spec_l1Amount.calls x3_1 true _ A8.out).mono ?_); rintro e w' ⟨rfl, ⟨nd, rfl⟩⟩; refine ⟨_, rfl, ?_⟩))
          go_ret
          exact ⟨by first | rfl | (simp; done) | (simp [*]; done), by repeat (first | exact Drawn0.refl _ | apply Drawn0.step)⟩
        · replace c9 := Bool.eq_false_iff.mpr c9
          subst c9
          have H1 : (some 7) = some r := by rw [if_neg (show ¬ (false = true) by decide)] at H; exact H
          clear H
          have H := H1
          clear H1
          obtain rfl := Option.some.inj H
          go_wp2_with (first | ((with_reducible refine gate_callee (f := 138) rfl ?_); refine goesL_ (some 36) rfl rfl Try.func138 (by kernel_rfl) rfl #[.int .i64 x3_1] rfl (by (try simp only [List.map_toArray, List.map_cons, List.map_nil]); first | done | rfl | (simp only [List.length_drop, List.length_take]; rfl)) ?_; (with_reducible refine (spec_l1Amount.calls x3_1 false _ A8.out).mono ?_); rintro e w' ⟨rfl, ⟨nd, rfl⟩⟩; refine ⟨_, rfl, ?_⟩))
          go_ret
          exact ⟨by first | rfl | (simp; done) | (simp [*]; done), by repeat (first | exact Drawn0.refl _ | apply Drawn0.step)⟩

/-! ### spec_l3Fault_in: function 178 -/
mutual
def spec_l3Fault_in.j0 : Nat → List (S27) → Bool → Option (Int)
  | 0, _, _ => none
  | k + 1, x0, x32 => if x32 = true then (some 2) else (spec_l3Fault_in.l0 k x0 0)
def spec_l3Fault_in.l0 : Nat → List (S27) → Int → Option (Int)
  | 0, _, _ => none
  | k + 1, x0, x3 => if 0 < (x0.length : Int) then (if x3 < (((rd_T27 x0 0).f1).length : Int) then ((spec_l3In.f k ((rd_T27 x0 0).f1) x3).bind fun t269 => (if t269 = 0 then (spec_l3Fault_in.l0 k x0 (wrap64 (x3 + 1))) else (some t269))) else ((spec_l3Outs.f k ((rd_T27 x0 0).f2)).bind fun t271 => (some t271))) else (none)
end
def spec_l3Fault_in.f (k : Nat) (l0 : List (S27)) : Option (Int) := if 0 < (l0.length : Int) then ((spec_l1In.f ((rd_T27 l0 0).f0) 0 65535).bind fun t265 => (if t265 = true then (if (((rd_T27 l0 0).f1).length : Int) > 4 then (spec_l3Fault_in.j0 k l0 true) else (if (((rd_T27 l0 0).f2).length : Int) < 1 then (spec_l3Fault_in.j0 k l0 true) else (spec_l3Fault_in.j0 k l0 (decide ((((rd_T27 l0 0).f2).length : Int) > 4))))) else (some 3))) else (none)
theorem spec_l3Fault_in.mono_l : ∀ k, (∀ y0 y1, LeO (spec_l3Fault_in.j0 k y0 y1) (spec_l3Fault_in.j0 (k + 1) y0 y1)) ∧ (∀ y0 y1, LeO (spec_l3Fault_in.l0 k y0 y1) (spec_l3Fault_in.l0 (k + 1) y0 y1))
  | 0 => ⟨fun _ _ r h => by simp [spec_l3Fault_in.j0] at h, fun _ _ r h => by simp [spec_l3Fault_in.l0] at h⟩
  | k + 1 => by
    obtain ⟨ih0, ih1⟩ := spec_l3Fault_in.mono_l k
    refine ⟨?_, ?_⟩
    · intro y0 y1
      unfold spec_l3Fault_in.j0
      repeat' first
      | (with_reducible exact ih0 _ _)
      | (with_reducible exact ih1 _ _)
      | (with_reducible exact spec_l3In.mono _ _ _)
      | (with_reducible exact spec_l3Outs.mono _ _)
      | (with_reducible exact LeO.refl _)
      | (with_reducible exact LeO.none _)
      | (with_reducible refine LeO.ite ?_ ?_)
      | (with_reducible refine LeO.bind ?_ (fun _ => ?_))
      | exact ih0 _ _
      | exact ih1 _ _
      | exact spec_l3In.mono _ _ _
      | exact spec_l3Outs.mono _ _
      | exact LeO.none _
      | refine LeO.ite ?_ ?_
      | refine LeO.bind ?_ (fun _ => ?_)
    · intro y0 y1
      unfold spec_l3Fault_in.l0
      repeat' first
      | (with_reducible exact ih0 _ _)
      | (with_reducible exact ih1 _ _)
      | (with_reducible exact spec_l3In.mono _ _ _)
      | (with_reducible exact spec_l3Outs.mono _ _)
      | (with_reducible exact LeO.refl _)
      | (with_reducible exact LeO.none _)
      | (with_reducible refine LeO.ite ?_ ?_)
      | (with_reducible refine LeO.bind ?_ (fun _ => ?_))
      | exact ih0 _ _
      | exact ih1 _ _
      | exact spec_l3In.mono _ _ _
      | exact spec_l3Outs.mono _ _
      | exact LeO.none _
      | refine LeO.ite ?_ ?_
      | refine LeO.bind ?_ (fun _ => ?_)
theorem spec_l3Fault_in.mono : ∀ a0 k, LeO (spec_l3Fault_in.f k a0) (spec_l3Fault_in.f (k + 1) a0) := by
  intro a0 k
  obtain ⟨ih0, ih1⟩ := spec_l3Fault_in.mono_l k
  unfold spec_l3Fault_in.f
  repeat' first
      | (with_reducible exact ih0 _ _)
      | (with_reducible exact ih1 _ _)
      | (with_reducible exact spec_l3In.mono _ _ _)
      | (with_reducible exact spec_l3Outs.mono _ _)
      | (with_reducible exact LeO.refl _)
      | (with_reducible exact LeO.none _)
      | (with_reducible refine LeO.ite ?_ ?_)
      | (with_reducible refine LeO.bind ?_ (fun _ => ?_))
      | exact ih0 _ _
      | exact ih1 _ _
      | exact spec_l3In.mono _ _ _
      | exact spec_l3Outs.mono _ _
      | exact LeO.none _
      | refine LeO.ite ?_ ?_
      | refine LeO.bind ?_ (fun _ => ?_)
set_option maxHeartbeats 8000000 in
set_option maxRecDepth 100000 in
theorem spec_l3Fault_in.calls (k : Nat) (A0 : Option Addr) (c0 : Nat) (l0 : List (S27)) (r : Int) (w : World) (hr0 : Kd.C k27 w A0 l0.length l0) (hc0 : l0.length ≤ c0) (h : spec_l3Fault_in.f k l0 = some r) :
    Calls Try.prog 53 #[.pointer A0] w fun e w' => e = .returned (.int .i64 r) ∧ Below w.heap.size w w' := by
  have HR0 := Aside0.mk hr0
  have HC0 := Aside0.mk hc0
  clear hr0 hc0
  have HB := Aside0.mk (Below.refl w.heap.size w)
  have H : (if 0 < (l0.length : Int) then ((spec_l1In.f ((rd_T27 l0 0).f0) 0 65535).bind fun t265 => (if t265 = true then (if (((rd_T27 l0 0).f1).length : Int) > 4 then (spec_l3Fault_in.j0 k l0 true) else (if (((rd_T27 l0 0).f2).length : Int) < 1 then (spec_l3Fault_in.j0 k l0 true) else (spec_l3Fault_in.j0 k l0 (decide ((((rd_T27 l0 0).f2).length : Int) > 4))))) else (some 3))) else (none)) = some r := h
  clear h
  by_cases c2 : 0 < (l0.length : Int)
  · rw [if_pos c2] at H
    have c2b0 : decide (0 < (l0.length : Int)) = true := decide_eq_true c2
    have c2b1 : decide (0 < l0.length) = true := decide_eq_true (by omega)
    clear c2
    replace H := Option.bind_eq_some_iff.mp H
    obtain ⟨t265, A30, H⟩ := H
    replace H : (if t265 = true then (if (((rd_T27 l0 0).f1).length : Int) > 4 then (spec_l3Fault_in.j0 k l0 true) else (if (((rd_T27 l0 0).f2).length : Int) < 1 then (spec_l3Fault_in.j0 k l0 true) else (spec_l3Fault_in.j0 k l0 (decide ((((rd_T27 l0 0).f2).length : Int) > 4))))) else (some 3)) = some r := H
    have A3 := Aside0.mk A30
    clear A30
    by_cases c4 : t265 = true
    · subst c4
      have H1 : (if (((rd_T27 l0 0).f1).length : Int) > 4 then (spec_l3Fault_in.j0 k l0 true) else (if (((rd_T27 l0 0).f2).length : Int) < 1 then (spec_l3Fault_in.j0 k l0 true) else (spec_l3Fault_in.j0 k l0 (decide ((((rd_T27 l0 0).f2).length : Int) > 4))))) = some r := by rw [if_pos rfl] at H; exact H
      clear H
      have H := H1
      clear H1
      have HC5 := Aside0.mk H
      clear H
      have p264 : 0 ≤ (0 : Int) := (by omega)
      have q264 : 0 < (l0.length : Int) := of_decide_eq_true (by first | (with_reducible assumption) | assumption)
      obtain ⟨ad264, A264_1, c264_1, A264_2, c264_2, e264, hx264_0, hx264_1, hx264_2, hl264_1, hi264_1, hl264_2, hi264_2⟩ := at_T27 HR0.out 0 p264 q264
      cases e264
      have qi264 : (0 < l0.length) = True := eq_true (by omega)
      (try rw [show ((0 : Int)).toNat = 0 from rfl] at hx264_0)
      (try rw [show 0 * 3 = 0 from rfl] at hx264_0)
      (try rw [Addr.add_zero'] at hx264_0)
      (try rw [show ((0 : Int)).toNat = 0 from rfl] at hx264_1)
      (try rw [show 0 * 3 = 0 from rfl] at hx264_1)
      (try rw [Addr.add_zero'] at hx264_1)
      (try rw [show ((0 : Int)).toNat = 0 from rfl] at hx264_2)
      (try rw [show 0 * 3 = 0 from rfl] at hx264_2)
      (try rw [Addr.add_zero'] at hx264_2)
      have HR264_1 := Aside0.mk hi264_1
      have HC264_1 := Aside0.mk hl264_1
      clear hi264_1 hl264_1
      have HR264_2 := Aside0.mk hi264_2
      have HC264_2 := Aside0.mk hl264_2
      clear hi264_2 hl264_2
      replace p264 := eq_true p264
      replace q264 := eq_true q264
      go_enter Try.func53, Try.ntmps53
      go_upto_region 3 with (first | ((with_reducible refine gate_callee (f := 81) rfl ?_); refine goesL_ (some 9) rfl rfl Try.func81 (by kernel_rfl) rfl #[.int .i64 ((rd_T27 l0 0).f0), .int .i64 0, .int .i64 65535] rfl (by (try simp only [List.map_toArray, List.map_cons, List.map_nil]); first | done | rfl | (simp only [List.length_drop, List.length_take]; rfl)) ?_; (with_reducible refine (spec_l1In.calls ((rd_T27 l0 0).f0) 0 65535 true _ A3.out).mono ?_); rintro e w' ⟨rfl, ⟨nd, rfl⟩⟩; refine ⟨_, rfl, ?_⟩))
      (try simp only [Act.put, List.setIfInBounds_toArray, List.set_cons_zero, List.set_cons_succ])
      go_cut [32] (fun v32 wc => ∃ (kq : Nat) (x32_4 : Bool), v32 = .bool x32_4 ∧ Aside0 (spec_l3Fault_in.j0 kq l0 x32_4 = some r) ∧ Aside0 (kq ≤ k) ∧ Aside0 (Below w.heap.size w wc))
      case first =>
        have H := HC5.out
        clear HC5
        by_cases c6 : (((rd_T27 l0 0).f1).length : Int) > 4
        · rw [if_pos c6] at H
          have c6b0 : decide (4 < (((rd_T27 l0 0).f1).length : Int)) = true := decide_eq_true c6
          have c6b1 : decide (4 < ((rd_T27 l0 0).f1).length) = true := decide_eq_true (by omega)
          clear c6
          (first | rw [c6b0] | (simp only [i64_w, i32_w]; rw [c6b0]) | skip)
          have H' := Aside0.mk H
          clear H
          have p266 : 0 ≤ (0 : Int) := (by omega)
          have q266 : 0 < (l0.length : Int) := of_decide_eq_true (by first | (with_reducible assumption) | assumption)
          (try clear hx264_0); (try clear hx264_1); (try clear hx264_2); (try clear hHeld)
          obtain ⟨ad266, A266_1, c266_1, A266_2, c266_2, e266, hx266_0, hx266_1, hx266_2, hl266_1, hi266_1, hl266_2, hi266_2⟩ := at_T27 HR0.out 0 p266 q266
          obtain rfl : ad264 = ad266 := (by injection e266)
          have qi266 : (0 < l0.length) = True := eq_true (by omega)
          (try rw [show ((0 : Int)).toNat = 0 from rfl] at hx266_0)
          (try rw [show 0 * 3 = 0 from rfl] at hx266_0)
          (try rw [Addr.add_zero'] at hx266_0)
          (try rw [show ((0 : Int)).toNat = 0 from rfl] at hx266_1)
          (try rw [show 0 * 3 = 0 from rfl] at hx266_1)
          (try rw [Addr.add_zero'] at hx266_1)
          (try rw [show ((0 : Int)).toNat = 0 from rfl] at hx266_2)
          (try rw [show 0 * 3 = 0 from rfl] at hx266_2)
          (try rw [Addr.add_zero'] at hx266_2)
          replace hx266_0 := (HB.out.cell (World.block_lt_of_cell? w _ hx266_0)).trans hx266_0
          replace hx266_1 := (HB.out.cell (World.block_lt_of_cell? w _ hx266_1)).trans hx266_1
          replace hx266_2 := (HB.out.cell (World.block_lt_of_cell? w _ hx266_2)).trans hx266_2
          have HR266_1 := Aside0.mk hi266_1
          have HC266_1 := Aside0.mk hl266_1
          clear hi266_1 hl266_1
          have HR266_2 := Aside0.mk hi266_2
          have HC266_2 := Aside0.mk hl266_2
          clear hi266_2 hl266_2
          replace p266 := eq_true p266
          replace q266 := eq_true q266
          go_wp2
          go_meet
          case rel => exact ⟨_, (true), (by first | rfl | (simp; done) | (simp [*]; done)), H', ⟨by first | omega | exact Nat.le_refl _⟩, ⟨by repeat (first | (with_reducible first | exact HB.out | apply below_alloc | apply pw_below_drewN | apply below_drew1) | exact HB.out)⟩⟩
        · rw [if_neg c6] at H
          have c6b0 : decide (4 < (((rd_T27 l0 0).f1).length : Int)) = false := decide_eq_false c6
          have c6b1 : decide (4 < ((rd_T27 l0 0).f1).length) = false := decide_eq_false (by omega)
          clear c6
          (first | rw [c6b0] | (simp only [i64_w, i32_w]; rw [c6b0]) | skip)
          by_cases c7 : (((rd_T27 l0 0).f2).length : Int) < 1
          · rw [if_pos c7] at H
            have c7b0 : decide ((((rd_T27 l0 0).f2).length : Int) < 1) = true := decide_eq_true c7
            have c7b1 : decide (((rd_T27 l0 0).f2).length < 1) = true := decide_eq_true (by omega)
            clear c7
            have H' := Aside0.mk H
            clear H
            have p266 : 0 ≤ (0 : Int) := (by omega)
            have q266 : 0 < (l0.length : Int) := of_decide_eq_true (by first | (with_reducible assumption) | assumption)
            obtain ⟨ad266, A266_1, c266_1, A266_2, c266_2, e266, hx266_0, hx266_1, hx266_2, hl266_1, hi266_1, hl266_2, hi266_2⟩ := at_T27 HR0.out 0 p266 q266
            obtain rfl : ad264 = ad266 := (by injection e266)
            have qi266 : (0 < l0.length) = True := eq_true (by omega)
            (try rw [show ((0 : Int)).toNat = 0 from rfl] at hx266_0)
            (try rw [show 0 * 3 = 0 from rfl] at hx266_0)
            (try rw [Addr.add_zero'] at hx266_0)
            (try rw [show ((0 : Int)).toNat = 0 from rfl] at hx266_1)
            (try rw [show 0 * 3 = 0 from rfl] at hx266_1)
            (try rw [Addr.add_zero'] at hx266_1)
            (try rw [show ((0 : Int)).toNat = 0 from rfl] at hx266_2)
            (try rw [show 0 * 3 = 0 from rfl] at hx266_2)
            (try rw [Addr.add_zero'] at hx266_2)
            replace hx266_0 := (HB.out.cell (World.block_lt_of_cell? w _ hx266_0)).trans hx266_0
            replace hx266_1 := (HB.out.cell (World.block_lt_of_cell? w _ hx266_1)).trans hx266_1
            replace hx266_2 := (HB.out.cell (World.block_lt_of_cell? w _ hx266_2)).trans hx266_2
            have HR266_1 := Aside0.mk hi266_1
            have HC266_1 := Aside0.mk hl266_1
            clear hi266_1 hl266_1
            have HR266_2 := Aside0.mk hi266_2
            have HC266_2 := Aside0.mk hl266_2
            clear hi266_2 hl266_2
            replace p266 := eq_true p266
            replace q266 := eq_true q266
            go_wp2
            go_meet
            case rel => exact ⟨_, (true), (by first | rfl | (simp; done) | (simp [*]; done)), H', ⟨by first | omega | exact Nat.le_refl _⟩, ⟨by repeat (first | (with_reducible first | exact HB.out | apply below_alloc | apply pw_below_drewN | apply below_drew1) | exact HB.out)⟩⟩
          · rw [if_neg c7] at H
            have c7b0 : decide ((((rd_T27 l0 0).f2).length : Int) < 1) = false := decide_eq_false c7
            have c7b1 : decide (((rd_T27 l0 0).f2).length < 1) = false := decide_eq_false (by omega)
            clear c7
            have H' := Aside0.mk H
            clear H
            have p266 : 0 ≤ (0 : Int) := (by omega)
            have q266 : 0 < (l0.length : Int) := of_decide_eq_true (by first | (with_reducible assumption) | assumption)
            obtain ⟨ad266, A266_1, c266_1, A266_2, c266_2, e266, hx266_0, hx266_1, hx266_2, hl266_1, hi266_1, hl266_2, hi266_2⟩ := at_T27 HR0.out 0 p266 q266
            obtain rfl : ad264 = ad266 := (by injection e266)
            have qi266 : (0 < l0.length) = True := eq_true (by omega)
            (try rw [show ((0 : Int)).toNat = 0 from rfl] at hx266_0)
            (try rw [show 0 * 3 = 0 from rfl] at hx266_0)
            (try rw [Addr.add_zero'] at hx266_0)
            (try rw [show ((0 : Int)).toNat = 0 from rfl] at hx266_1)
            (try rw [show 0 * 3 = 0 from rfl] at hx266_1)
            (try rw [Addr.add_zero'] at hx266_1)
            (try rw [show ((0 : Int)).toNat = 0 from rfl] at hx266_2)
            (try rw [show 0 * 3 = 0 from rfl] at hx266_2)
            (try rw [Addr.add_zero'] at hx266_2)
            replace hx266_0 := (HB.out.cell (World.block_lt_of_cell? w _ hx266_0)).trans hx266_0
            replace hx266_1 := (HB.out.cell (World.block_lt_of_cell? w _ hx266_1)).trans hx266_1
            replace hx266_2 := (HB.out.cell (World.block_lt_of_cell? w _ hx266_2)).trans hx266_2
            have HR266_1 := Aside0.mk hi266_1
            have HC266_1 := Aside0.mk hl266_1
            clear hi266_1 hl266_1
            have HR266_2 := Aside0.mk hi266_2
            have HC266_2 := Aside0.mk hl266_2
            clear hi266_2 hl266_2
            replace p266 := eq_true p266
            replace q266 := eq_true q266
            go_wp2
            go_meet
            case rel => exact ⟨_, (decide ((((rd_T27 l0 0).f2).length : Int) > 4)), (by first | rfl | (simp; done) | (simp [*]; done)), H', ⟨by first | omega | exact Nat.le_refl _⟩, ⟨by repeat (first | (with_reducible first | exact HB.out | apply below_alloc | apply pw_below_drewN | apply below_drew1) | exact HB.out)⟩⟩
      case rest =>
        clear HC5
        try clear c1
        try clear c2
        try clear c2b0
        try clear c2b1
        try clear p2
        try clear q2
        try clear hx2
        try clear qi2
        try clear c4
        try clear c6
        try clear c6b0
        try clear c6b1
        try clear c7
        try clear c7b0
        try clear c7b1
        try clear hx264_0
        try clear hx264_1
        try clear hx264_2
        try clear hx266_0
        try clear hx266_1
        try clear hx266_2
        try clear p264
        try clear p266
        try clear q264
        try clear q266
        obtain ⟨kq, x32_4, rfl, HA, HJ4, HB⟩ := hcut
        cases kq with
        | zero => exact absurd HA.out (by simp [spec_l3Fault_in.j0])
        | succ kj4 =>
          have H := HA.out
          clear HA
          simp only [spec_l3Fault_in.j0] at H
          by_cases c8 : x32_4 = true
          · subst c8
            have H1 : (some 2) = some r := by rw [if_pos rfl] at H; exact H
            clear H
            have H := H1
            clear H1
            obtain rfl := Option.some.inj H
            go_wp2
            go_ret
            exact ⟨by first | rfl | (simp [errW_none, errW_some] <;> rfl) | (simp [*, errW_none, errW_some] <;> rfl), by repeat (first | (with_reducible first | exact HB.out | apply below_alloc | apply pw_below_drewN | apply below_drew1) | exact HB.out)⟩
          · replace c8 := Bool.eq_false_iff.mpr c8
            subst c8
            have H1 : (spec_l3Fault_in.l0 kj4 l0 0) = some r := by rw [if_neg (show ¬ (false = true) by decide)] at H; exact H
            clear H
            have H := H1
            clear H1
            have H' := Aside0.mk H
            clear H
            go_wp2
            go_loopg [3] kj4 (fun kq v3 w' => ∃ (x3_2 : Int), v3 = .int .i64 x3_2 ∧ Aside0 (spec_l3Fault_in.l0 kq l0 x3_2 = some r) ∧ Aside0 (kq ≤ kj4) ∧ Aside0 (Below w.heap.size w w'))
            case atStart => exact ⟨(0), (by first | rfl | (simp; done) | (simp [*]; done)), H', ⟨Nat.le_refl _⟩, ⟨by repeat (first | (with_reducible first | exact HB.out | apply below_alloc | apply pw_below_drewN | apply below_drew1) | exact HB.out)⟩⟩
            case round =>
              clear H'
              try clear c1
              try clear c2
              try clear c2b0
              try clear c2b1
              try clear p2
              try clear q2
              try clear hx2
              try clear qi2
              try clear c4
              try clear c6
              try clear c6b0
              try clear c6b1
              try clear c7
              try clear c7b0
              try clear c7b1
              try clear c8
              try clear hx264_0
              try clear hx264_1
              try clear hx264_2
              try clear hx266_0
              try clear hx266_1
              try clear hx266_2
              try clear p2
              try clear p264
              try clear p266
              try clear q2
              try clear q264
              try clear q266
              obtain ⟨x3_2, rfl, HA, HK2, HB⟩ := hrel
              cases gk with
              | zero => exact absurd HA.out (by simp [spec_l3Fault_in.l0])
              | succ k2 =>
                have H := HA.out
                clear HA
                simp only [spec_l3Fault_in.l0] at H
                by_cases c9 : 0 < (l0.length : Int)
                · rw [if_pos c9] at H
                  have c9b0 : decide (0 < (l0.length : Int)) = true := decide_eq_true c9
                  have c9b1 : decide (0 < l0.length) = true := decide_eq_true (by omega)
                  clear c9
                  by_cases c10 : x3_2 < (((rd_T27 l0 0).f1).length : Int)
                  · rw [if_pos c10] at H
                    have c10b0 : decide (x3_2 < (((rd_T27 l0 0).f1).length : Int)) = true := decide_eq_true c10
                    clear c10
                    replace H := Option.bind_eq_some_iff.mp H
                    obtain ⟨t269, A110, H⟩ := H
                    replace H : (if t269 = 0 then (spec_l3Fault_in.l0 k2 l0 (wrap64 (x3_2 + 1))) else (some t269)) = some r := H
                    have A11 := Aside0.mk A110
                    clear A110
                    by_cases c12 : t269 = 0
                    · rw [if_pos c12] at H
                      have c12b0 : (t269 == 0) = true := beq_iff_eq.mpr c12
                      have c12b1 : (t269 != 0) = false := bne_eq_false_iff_eq.mpr c12
                      clear c12
                      have H' := Aside0.mk H
                      clear H
                      have p267 : 0 ≤ (0 : Int) := (by omega)
                      have q267 : 0 < (l0.length : Int) := of_decide_eq_true (by first | (with_reducible assumption) | assumption)
                      obtain ⟨ad267, A267_1, c267_1, A267_2, c267_2, e267, hx267_0, hx267_1, hx267_2, hl267_1, hi267_1, hl267_2, hi267_2⟩ := at_T27 HR0.out 0 p267 q267
                      obtain rfl : ad264 = ad267 := (by injection e267)
                      have qi267 : (0 < l0.length) = True := eq_true (by omega)
                      (try rw [show ((0 : Int)).toNat = 0 from rfl] at hx267_0)
                      (try rw [show 0 * 3 = 0 from rfl] at hx267_0)
                      (try rw [Addr.add_zero'] at hx267_0)
                      (try rw [show ((0 : Int)).toNat = 0 from rfl] at hx267_1)
                      (try rw [show 0 * 3 = 0 from rfl] at hx267_1)
                      (try rw [Addr.add_zero'] at hx267_1)
                      (try rw [show ((0 : Int)).toNat = 0 from rfl] at hx267_2)
                      (try rw [show 0 * 3 = 0 from rfl] at hx267_2)
                      (try rw [Addr.add_zero'] at hx267_2)
                      replace hx267_0 := (HB.out.cell (World.block_lt_of_cell? w _ hx267_0)).trans hx267_0
                      replace hx267_1 := (HB.out.cell (World.block_lt_of_cell? w _ hx267_1)).trans hx267_1
                      replace hx267_2 := (HB.out.cell (World.block_lt_of_cell? w _ hx267_2)).trans hx267_2
                      have HR267_1 := Aside0.mk hi267_1
                      have HC267_1 := Aside0.mk hl267_1
                      clear hi267_1 hl267_1
                      have HR267_2 := Aside0.mk hi267_2
                      have HC267_2 := Aside0.mk hl267_2
                      clear hi267_2 hl267_2
                      replace p267 := eq_true p267
                      replace q267 := eq_true q267
                      have p268 : 0 ≤ (0 : Int) := (by omega)
                      have q268 : 0 < (l0.length : Int) := of_decide_eq_true (by first | (with_reducible assumption) | assumption)
                      (try clear hx267_0); (try clear hHeld)
                      obtain ⟨ad268, A268_1, c268_1, A268_2, c268_2, e268, hx268_0, hx268_1, hx268_2, hl268_1, hi268_1, hl268_2, hi268_2⟩ := at_T27 HR0.out 0 p268 q268
                      obtain rfl : ad264 = ad268 := (by injection e268)
                      have qi268 : (0 < l0.length) = True := eq_true (by omega)
                      (try rw [show ((0 : Int)).toNat = 0 from rfl] at hx268_0)
                      (try rw [show 0 * 3 = 0 from rfl] at hx268_0)
                      (try rw [Addr.add_zero'] at hx268_0)
                      (try rw [show ((0 : Int)).toNat = 0 from rfl] at hx268_1)
                      (try rw [show 0 * 3 = 0 from rfl] at hx268_1)
                      (try rw [Addr.add_zero'] at hx268_1)
                      (try rw [show ((0 : Int)).toNat = 0 from rfl] at hx268_2)
                      (try rw [show 0 * 3 = 0 from rfl] at hx268_2)
                      (try rw [Addr.add_zero'] at hx268_2)
                      replace hx268_0 := (HB.out.cell (World.block_lt_of_cell? w _ hx268_0)).trans hx268_0
                      replace hx268_1 := (HB.out.cell (World.block_lt_of_cell? w _ hx268_1)).trans hx268_1
                      replace hx268_2 := (HB.out.cell (World.block_lt_of_cell? w _ hx268_2)).trans hx268_2
                      have HR268_1 := Aside0.mk hi268_1
                      have HC268_1 := Aside0.mk hl268_1
                      clear hi268_1 hl268_1
                      have HR268_2 := Aside0.mk hi268_2
                      have HC268_2 := Aside0.mk hl268_2
                      clear hi268_2 hl268_2
                      replace p268 := eq_true p268
                      replace q268 := eq_true q268
                      have ea_ := Option.some.inj (hx267_1.symm.trans hx268_1)
                      injection ea_ with ea_ en_ ec_
                      subst ea_
                      subst ec_
                      clear en_
                      have ea_ := Option.some.inj (hx267_2.symm.trans hx268_2)
                      injection ea_ with ea_ en_ ec_
                      subst ea_
                      subst ec_
                      clear en_
                      go_wp2_with (first | ((with_reducible refine gate_callee (f := 101) rfl ?_); refine goesL_ (some 47) rfl rfl Try.func101 (by kernel_rfl) rfl #[.slice A267_1 ((rd_T27 l0 0).f1).length c267_1, .int .i64 x3_2] rfl (by (try simp only [List.map_toArray, List.map_cons, List.map_nil]); first | done | rfl | (simp only [List.length_drop, List.length_take]; rfl)) ?_; (with_reducible refine (spec_l3In.calls k2 _ _ ((rd_T27 l0 0).f1) x3_2 t269 _ ?side1 ?side2 A11.out).mono ?_); (case side1 => repeat (first | exact (Kd.C_below HR268_1.out HB.out) | (with_reducible refine Kd.C_alloc ?_ _) | (with_reducible refine Kd.C_drewN ?_ _) | (with_reducible refine Kd.C_drew ?_))); (case side2 => exact HC268_1.out); rintro e w' ⟨rfl, ⟨nd, rfl⟩⟩; refine ⟨_, rfl, ?_⟩))
                      go_roundg k2
                      case measure => have := HJ4.out; have := HK2.out; omega
                      case rel => exact ⟨(wrap64 (x3_2 + 1)), (by first | rfl | (simp; done) | (simp [*]; done)), H', ⟨by have := HJ4.out; have := HK2.out; omega⟩, ⟨by repeat (first | (with_reducible first | exact HB.out | apply below_alloc | apply pw_below_drewN | apply below_drew1) | exact HB.out)⟩⟩
                    · rw [if_neg c12] at H
                      have c12b0 : (t269 == 0) = false := beq_eq_false_iff_ne.mpr c12
                      have c12b1 : (t269 != 0) = true := bne_iff_ne.mpr c12
                      obtain rfl := Option.some.inj H
                      have p267 : 0 ≤ (0 : Int) := (by omega)
                      have q267 : 0 < (l0.length : Int) := of_decide_eq_true (by first | (with_reducible assumption) | assumption)
                      obtain ⟨ad267, A267_1, c267_1, A267_2, c267_2, e267, hx267_0, hx267_1, hx267_2, hl267_1, hi267_1, hl267_2, hi267_2⟩ := at_T27 HR0.out 0 p267 q267
                      obtain rfl : ad264 = ad267 := (by injection e267)
                      have qi267 : (0 < l0.length) = True := eq_true (by omega)
                      (try rw [show ((0 : Int)).toNat = 0 from rfl] at hx267_0)
                      (try rw [show 0 * 3 = 0 from rfl] at hx267_0)
                      (try rw [Addr.add_zero'] at hx267_0)
                      (try rw [show ((0 : Int)).toNat = 0 from rfl] at hx267_1)
                      (try rw [show 0 * 3 = 0 from rfl] at hx267_1)
                      (try rw [Addr.add_zero'] at hx267_1)
                      (try rw [show ((0 : Int)).toNat = 0 from rfl] at hx267_2)
                      (try rw [show 0 * 3 = 0 from rfl] at hx267_2)
                      (try rw [Addr.add_zero'] at hx267_2)
                      replace hx267_0 := (HB.out.cell (World.block_lt_of_cell? w _ hx267_0)).trans hx267_0
                      replace hx267_1 := (HB.out.cell (World.block_lt_of_cell? w _ hx267_1)).trans hx267_1
                      replace hx267_2 := (HB.out.cell (World.block_lt_of_cell? w _ hx267_2)).trans hx267_2
                      have HR267_1 := Aside0.mk hi267_1
                      have HC267_1 := Aside0.mk hl267_1
                      clear hi267_1 hl267_1
                      have HR267_2 := Aside0.mk hi267_2
                      have HC267_2 := Aside0.mk hl267_2
                      clear hi267_2 hl267_2
                      replace p267 := eq_true p267
                      replace q267 := eq_true q267
                      have p268 : 0 ≤ (0 : Int) := (by omega)
                      have q268 : 0 < (l0.length : Int) := of_decide_eq_true (by first | (with_reducible assumption) | assumption)
                      (try clear hx267_0); (try clear hHeld)
                      obtain ⟨ad268, A268_1, c268_1, A268_2, c268_2, e268, hx268_0, hx268_1, hx268_2, hl268_1, hi268_1, hl268_2, hi268_2⟩ := at_T27 HR0.out 0 p268 q268
                      obtain rfl : ad264 = ad268 := (by injection e268)
                      have qi268 : (0 < l0.length) = True := eq_true (by omega)
                      (try rw [show ((0 : Int)).toNat = 0 from rfl] at hx268_0)
                      (try rw [show 0 * 3 = 0 from rfl] at hx268_0)
                      (try rw [Addr.add_zero'] at hx268_0)
                      (try rw [show ((0 : Int)).toNat = 0 from rfl] at hx268_1)
                      (try rw [show 0 * 3 = 0 from rfl] at hx268_1)
                      (try rw [Addr.add_zero'] at hx268_1)
                      (try rw [show ((0 : Int)).toNat = 0 from rfl] at hx268_2)
                      (try rw [show 0 * 3 = 0 from rfl] at hx268_2)
                      (try rw [Addr.add_zero'] at hx268_2)
                      replace hx268_0 := (HB.out.cell (World.block_lt_of_cell? w _ hx268_0)).trans hx268_0
                      replace hx268_1 := (HB.out.cell (World.block_lt_of_cell? w _ hx268_1)).trans hx268_1
                      replace hx268_2 := (HB.out.cell (World.block_lt_of_cell? w _ hx268_2)).trans hx268_2
                      have HR268_1 := Aside0.mk hi268_1
                      have HC268_1 := Aside0.mk hl268_1
                      clear hi268_1 hl268_1
                      have HR268_2 := Aside0.mk hi268_2
                      have HC268_2 := Aside0.mk hl268_2
                      clear hi268_2 hl268_2
                      replace p268 := eq_true p268
                      replace q268 := eq_true q268
                      have ea_ := Option.some.inj (hx267_1.symm.trans hx268_1)
                      injection ea_ with ea_ en_ ec_
                      subst ea_
                      subst ec_
                      clear en_
                      have ea_ := Option.some.inj (hx267_2.symm.trans hx268_2)
                      injection ea_ with ea_ en_ ec_
                      subst ea_
                      subst ec_
                      clear en_
                      go_wp2_with (first | ((with_reducible refine gate_callee (f := 101) rfl ?_); refine goesL_ (some 47) rfl rfl Try.func101 (by kernel_rfl) rfl #[.slice A267_1 ((rd_T27 l0 0).f1).length c267_1, .int .i64 x3_2] rfl (by (try simp only [List.map_toArray, List.map_cons, List.map_nil]); first | done | rfl | (simp only [List.length_drop, List.length_take]; rfl)) ?_; (with_reducible refine (spec_l3In.calls k2 _ _ ((rd_T27 l0 0).f1) x3_2 t269 _ ?side1 ?side2 A11.out).mono ?_); (case side1 => repeat (first | exact (Kd.C_below HR268_1.out HB.out) | (with_reducible refine Kd.C_alloc ?_ _) | (with_reducible refine Kd.C_drewN ?_ _) | (with_reducible refine Kd.C_drew ?_))); (case side2 => exact HC268_1.out); rintro e w' ⟨rfl, ⟨nd, rfl⟩⟩; refine ⟨_, rfl, ?_⟩))
                      go_ret
                      exact ⟨by first | rfl | (simp [errW_none, errW_some] <;> rfl) | (simp [*, errW_none, errW_some] <;> rfl), by repeat (first | (with_reducible first | exact HB.out | apply below_alloc | apply pw_below_drewN | apply below_drew1) | exact HB.out)⟩
                  · rw [if_neg c10] at H
                    have c10b0 : decide (x3_2 < (((rd_T27 l0 0).f1).length : Int)) = false := decide_eq_false c10
                    clear c10
                    replace H := Option.bind_eq_some_iff.mp H
                    obtain ⟨t271, A130, H⟩ := H
                    replace H : (some t271) = some r := H
                    have A13 := Aside0.mk A130
                    clear A130
                    obtain rfl := Option.some.inj H
                    have p267 : 0 ≤ (0 : Int) := (by omega)
                    have q267 : 0 < (l0.length : Int) := of_decide_eq_true (by first | (with_reducible assumption) | assumption)
                    obtain ⟨ad267, A267_1, c267_1, A267_2, c267_2, e267, hx267_0, hx267_1, hx267_2, hl267_1, hi267_1, hl267_2, hi267_2⟩ := at_T27 HR0.out 0 p267 q267
                    obtain rfl : ad264 = ad267 := (by injection e267)
                    have qi267 : (0 < l0.length) = True := eq_true (by omega)
                    (try rw [show ((0 : Int)).toNat = 0 from rfl] at hx267_0)
                    (try rw [show 0 * 3 = 0 from rfl] at hx267_0)
                    (try rw [Addr.add_zero'] at hx267_0)
                    (try rw [show ((0 : Int)).toNat = 0 from rfl] at hx267_1)
                    (try rw [show 0 * 3 = 0 from rfl] at hx267_1)
                    (try rw [Addr.add_zero'] at hx267_1)
                    (try rw [show ((0 : Int)).toNat = 0 from rfl] at hx267_2)
                    (try rw [show 0 * 3 = 0 from rfl] at hx267_2)
                    (try rw [Addr.add_zero'] at hx267_2)
                    replace hx267_0 := (HB.out.cell (World.block_lt_of_cell? w _ hx267_0)).trans hx267_0
                    replace hx267_1 := (HB.out.cell (World.block_lt_of_cell? w _ hx267_1)).trans hx267_1
                    replace hx267_2 := (HB.out.cell (World.block_lt_of_cell? w _ hx267_2)).trans hx267_2
                    have HR267_1 := Aside0.mk hi267_1
                    have HC267_1 := Aside0.mk hl267_1
                    clear hi267_1 hl267_1
                    have HR267_2 := Aside0.mk hi267_2
                    have HC267_2 := Aside0.mk hl267_2
                    clear hi267_2 hl267_2
                    replace p267 := eq_true p267
                    replace q267 := eq_true q267
                    have p270 : 0 ≤ (0 : Int) := (by omega)
                    have q270 : 0 < (l0.length : Int) := of_decide_eq_true (by first | (with_reducible assumption) | assumption)
                    (try clear hx267_0); (try clear hHeld)
                    obtain ⟨ad270, A270_1, c270_1, A270_2, c270_2, e270, hx270_0, hx270_1, hx270_2, hl270_1, hi270_1, hl270_2, hi270_2⟩ := at_T27 HR0.out 0 p270 q270
                    obtain rfl : ad264 = ad270 := (by injection e270)
                    have qi270 : (0 < l0.length) = True := eq_true (by omega)
                    (try rw [show ((0 : Int)).toNat = 0 from rfl] at hx270_0)
                    (try rw [show 0 * 3 = 0 from rfl] at hx270_0)
                    (try rw [Addr.add_zero'] at hx270_0)
                    (try rw [show ((0 : Int)).toNat = 0 from rfl] at hx270_1)
                    (try rw [show 0 * 3 = 0 from rfl] at hx270_1)
                    (try rw [Addr.add_zero'] at hx270_1)
                    (try rw [show ((0 : Int)).toNat = 0 from rfl] at hx270_2)
                    (try rw [show 0 * 3 = 0 from rfl] at hx270_2)
                    (try rw [Addr.add_zero'] at hx270_2)
                    replace hx270_0 := (HB.out.cell (World.block_lt_of_cell? w _ hx270_0)).trans hx270_0
                    replace hx270_1 := (HB.out.cell (World.block_lt_of_cell? w _ hx270_1)).trans hx270_1
                    replace hx270_2 := (HB.out.cell (World.block_lt_of_cell? w _ hx270_2)).trans hx270_2
                    have HR270_1 := Aside0.mk hi270_1
                    have HC270_1 := Aside0.mk hl270_1
                    clear hi270_1 hl270_1
                    have HR270_2 := Aside0.mk hi270_2
                    have HC270_2 := Aside0.mk hl270_2
                    clear hi270_2 hl270_2
                    replace p270 := eq_true p270
                    replace q270 := eq_true q270
                    have ea_ := Option.some.inj (hx267_1.symm.trans hx270_1)
                    injection ea_ with ea_ en_ ec_
                    subst ea_
                    subst ec_
                    clear en_
                    have ea_ := Option.some.inj (hx267_2.symm.trans hx270_2)
                    injection ea_ with ea_ en_ ec_
                    subst ea_
                    subst ec_
                    clear en_
                    go_wp2_with (first | ((with_reducible refine gate_callee (f := 102) rfl ?_); refine goesL_ (some 55) rfl rfl Try.func102 (by kernel_rfl) rfl #[.slice A267_2 ((rd_T27 l0 0).f2).length c267_2] rfl (by (try simp only [List.map_toArray, List.map_cons, List.map_nil]); first | done | rfl | (simp only [List.length_drop, List.length_take]; rfl)) ?_; (with_reducible refine (spec_l3Outs.calls k2 _ _ ((rd_T27 l0 0).f2) t271 _ ?side1 ?side2 A13.out).mono ?_); (case side1 => repeat (first | exact (Kd.C_below HR270_2.out HB.out) | (with_reducible refine Kd.C_alloc ?_ _) | (with_reducible refine Kd.C_drewN ?_ _) | (with_reducible refine Kd.C_drew ?_))); (case side2 => exact HC270_2.out); rintro e w' ⟨rfl, ⟨nd, rfl⟩⟩; refine ⟨_, rfl, ?_⟩))
                    go_ret
                    exact ⟨by first | rfl | (simp [errW_none, errW_some] <;> rfl) | (simp [*, errW_none, errW_some] <;> rfl), by repeat (first | (with_reducible first | exact HB.out | apply below_alloc | apply pw_below_drewN | apply below_drew1) | exact HB.out)⟩
                · rw [if_neg c9] at H
                  exact absurd H (by simp)
    · replace c4 := Bool.eq_false_iff.mpr c4
      subst c4
      have H1 : (some 3) = some r := by rw [if_neg (show ¬ (false = true) by decide)] at H; exact H
      clear H
      have H := H1
      clear H1
      obtain rfl := Option.some.inj H
      have p264 : 0 ≤ (0 : Int) := (by omega)
      have q264 : 0 < (l0.length : Int) := of_decide_eq_true (by first | (with_reducible assumption) | assumption)
      obtain ⟨ad264, A264_1, c264_1, A264_2, c264_2, e264, hx264_0, hx264_1, hx264_2, hl264_1, hi264_1, hl264_2, hi264_2⟩ := at_T27 HR0.out 0 p264 q264
      cases e264
      have qi264 : (0 < l0.length) = True := eq_true (by omega)
      (try rw [show ((0 : Int)).toNat = 0 from rfl] at hx264_0)
      (try rw [show 0 * 3 = 0 from rfl] at hx264_0)
      (try rw [Addr.add_zero'] at hx264_0)
      (try rw [show ((0 : Int)).toNat = 0 from rfl] at hx264_1)
      (try rw [show 0 * 3 = 0 from rfl] at hx264_1)
      (try rw [Addr.add_zero'] at hx264_1)
      (try rw [show ((0 : Int)).toNat = 0 from rfl] at hx264_2)
      (try rw [show 0 * 3 = 0 from rfl] at hx264_2)
      (try rw [Addr.add_zero'] at hx264_2)
      have HR264_1 := Aside0.mk hi264_1
      have HC264_1 := Aside0.mk hl264_1
      clear hi264_1 hl264_1
      have HR264_2 := Aside0.mk hi264_2
      have HC264_2 := Aside0.mk hl264_2
      clear hi264_2 hl264_2
      replace p264 := eq_true p264
      replace q264 := eq_true q264
      go_enter Try.func53, Try.ntmps53
      go_wp2_with (first | ((with_reducible refine gate_callee (f := 81) rfl ?_); refine goesL_ (some 9) rfl rfl Try.func81 (by kernel_rfl) rfl #[.int .i64 ((rd_T27 l0 0).f0), .int .i64 0, .int .i64 65535] rfl (by (try simp only [List.map_toArray, List.map_cons, List.map_nil]); first | done | rfl | (simp only [List.length_drop, List.length_take]; rfl)) ?_; (with_reducible refine (spec_l1In.calls ((rd_T27 l0 0).f0) 0 65535 false _ A3.out).mono ?_); rintro e w' ⟨rfl, ⟨nd, rfl⟩⟩; refine ⟨_, rfl, ?_⟩))
      go_ret
      exact ⟨by first | rfl | (simp [errW_none, errW_some] <;> rfl) | (simp [*, errW_none, errW_some] <;> rfl), by repeat (first | (with_reducible first | exact HB.out | apply below_alloc | apply pw_below_drewN | apply below_drew1) | exact HB.out)⟩
  · rw [if_neg c2] at H
    exact absurd H (by simp)

/-! ### spec_l3Fault: spec_l3Fault_in with its records by value; the contract of the pointer -/
def spec_l3Fault.f (k : Nat) (a0_0 : Int) (l0_1 : List (S34)) (l0_2 : List (S86)) : Option (Int) := spec_l3Fault_in.f k [(⟨a0_0, l0_1, l0_2⟩ : S27)]
theorem spec_l3Fault.mono : ∀ (a0_0 : Int) (l0_1 : List (S34)) (l0_2 : List (S86)) (k : Nat), LeO (spec_l3Fault.f k a0_0 l0_1 l0_2) (spec_l3Fault.f (k + 1) a0_0 l0_1 l0_2) := fun a0_0 l0_1 l0_2 k => spec_l3Fault_in.mono [(⟨a0_0, l0_1, l0_2⟩ : S27)] k
set_option maxHeartbeats 8000000 in
theorem spec_l3Fault.calls (k : Nat) (a0_0 : Int) (A0_1 : Option Addr) (c0_1 : Nat) (l0_1 : List (S34)) (A0_2 : Option Addr) (c0_2 : Nat) (l0_2 : List (S86)) (r : Int) (w : World) (hr0_1 : Kd.C k34 w A0_1 l0_1.length l0_1) (hc0_1 : l0_1.length ≤ c0_1) (hr0_2 : Kd.C k86 w A0_2 l0_2.length l0_2) (hc0_2 : l0_2.length ≤ c0_2) (h : spec_l3Fault.f k a0_0 l0_1 l0_2 = some r) {pp0 : Addr} (hpp0_0 : w.cell? pp0 = some (.int .i64 a0_0)) (hpp0_1 : w.cell? ⟨pp0.block, pp0.off + 1, none⟩ = some (.slice A0_1 l0_1.length c0_1)) (hpp0_2 : w.cell? ⟨pp0.block, pp0.off + 2, none⟩ = some (.slice A0_2 l0_2.length c0_2)) :
    Calls Try.prog 53 #[.pointer (some pp0)] w fun e w' => e = .returned (.int .i64 r) ∧ Below w.heap.size w w' := by
  have o0 : Kd.C k27 w (some pp0) 1 [(⟨a0_0, l0_1, l0_2⟩ : S27)] := by
    refine ⟨rfl, by decide, fun _ => ⟨pp0, rfl, fun j p hj => ?_⟩⟩
    cases j with
    | succ j => simp at hj
    | zero =>
      obtain rfl : (⟨a0_0, l0_1, l0_2⟩ : S27) = p := by simpa using hj
      refine ⟨_, rfl, k27_mk w _ hc0_1 hr0_1 hc0_2 hr0_2, fun i u hu => ?_⟩
      match i, hu with
      | 0, hu => obtain rfl := Option.some.inj hu; exact hpp0_0
      | 1, hu => obtain rfl := Option.some.inj hu; exact hpp0_1
      | 2, hu => obtain rfl := Option.some.inj hu; exact hpp0_2
  exact spec_l3Fault_in.calls k (some pp0) 1 [(⟨a0_0, l0_1, l0_2⟩ : S27)] r w o0 (Nat.le_refl 1) h

/-! ### spec_l3Put: function 80 -/
def spec_l3Put.f (a0 : Int) : Option (List Int) := if a0 < 253 then (some (([(a0) % 256] : List Int))) else (some (([253, (Int.tmod a0 256) % 256, (wrap64 (Int.tdiv a0 256)) % 256] : List Int)))
set_option maxHeartbeats 8000000 in
set_option maxRecDepth 100000 in
theorem spec_l3Put.calls (a0 : Int) (r : List Int) (w : World) (h : spec_l3Put.f a0 = some r) :
    Calls Try.prog 80 #[.int .i64 a0] w fun e w' => ∃ v0_ : Value, e = .returned (v0_) ∧ Kd.R (Kd.int .u8) 5 w' w.heap.size (fun _ => True) v0_ r ∧ Below w.heap.size w w' := by
  have HB := Aside0.mk (Below.refl w.heap.size w)
  have H : (if a0 < 253 then (some (([(a0) % 256] : List Int))) else (some (([253, (Int.tmod a0 256) % 256, (wrap64 (Int.tdiv a0 256)) % 256] : List Int)))) = some r := h
  clear h
  by_cases c2 : a0 < 253
  · rw [if_pos c2] at H
    have c2b0 : decide (a0 < 253) = true := decide_eq_true c2
    clear c2
    obtain ⟨y272, hy272⟩ : ∃ y_ : List Int, y_ = (([(a0) % 256] : List Int)) := ⟨_, rfl⟩
    replace H : (some y272) = some r := by first | (rw [hy272]; with_reducible exact H) | (have H2_ := (Option.bind_some _ _).symm.trans H; rw [hy272]; with_reducible exact H2_) | (have H2_ := (Option.bind_some _ _).symm.trans H; with_reducible exact H2_) | with_reducible exact H | (rw [hy272]; exact H) | exact H
    have Ny272 := Aside0.mk hy272
    clear hy272
    obtain rfl := Option.some.inj H
    go_enter Try.func80, Try.ntmps80
    go_wp2_with (first | ((with_reducible refine gate_dst (N := 7) rfl ?_); refine Kd.R_lit (Kd.int .u8) _ 5 ?hg (N := 7) ?hd (xs := ([(a0) % 256] : List Int)) (inner := [.int .u8 ((a0) % 256)]) (ok := fun _ => True) (okp := fun _ => True) ?hr ?hp (fun _ hk => hk) trivial (Below.refl _ _) (Nat.le_refl _) (by simp) ?_; (case hd => rfl); (case hg => rfl); (case hr => first | (go_simp; done) | (go_simp; rfl)); (case hp => exact (Reps.one (show Kd.M (Kd.int .u8) _ _ _ ((a0) % 256) [.int .u8 ((a0) % 256)] from rfl) (Reps.none _ _))); intro v273 w3 ho4 hb hg_ hnew_; clear hg_ hnew_; (first | rw [← Ny272.out] at ho4 | (simp only [Int.reduceToNat] at ho4; rw [← Ny272.out] at ho4)); have n0_ := Aside0.mk (Kd.R_lower ho4 (below_size (by repeat (first | (with_reducible first | exact HB.out | apply below_alloc | apply pw_below_drewN | apply below_drew1) | exact HB.out)))); have n1_ := Aside0.mk (below_step (by repeat (first | (with_reducible first | exact HB.out | apply below_alloc | apply pw_below_drewN | apply below_drew1) | exact HB.out)) hb); clear HB; have HO274 := n0_; have HB := n1_; clear n0_ n1_; clear hb ho4))
    go_ret
    exact ⟨_, by first | rfl | (simp [errW_none, errW_some] <;> rfl) | (simp [*, errW_none, errW_some] <;> rfl), by (with_reducible repeat (first | apply Kd.R_alloc | apply Kd.R_drewN | apply Kd.R_drew)); exact HO274.out, by repeat (first | (with_reducible first | exact HB.out | apply below_alloc | apply pw_below_drewN | apply below_drew1) | exact HB.out)⟩
  · rw [if_neg c2] at H
    have c2b0 : decide (a0 < 253) = false := decide_eq_false c2
    clear c2
    obtain ⟨y275, hy275⟩ : ∃ y_ : List Int, y_ = (([253, (Int.tmod a0 256) % 256, (wrap64 (Int.tdiv a0 256)) % 256] : List Int)) := ⟨_, rfl⟩
    replace H : (some y275) = some r := by first | (rw [hy275]; with_reducible exact H) | (have H2_ := (Option.bind_some _ _).symm.trans H; rw [hy275]; with_reducible exact H2_) | (have H2_ := (Option.bind_some _ _).symm.trans H; with_reducible exact H2_) | with_reducible exact H | (rw [hy275]; exact H) | exact H
    have Ny275 := Aside0.mk hy275
    clear hy275
    obtain rfl := Option.some.inj H
    go_enter Try.func80, Try.ntmps80
    go_wp2_with (first | ((with_reducible refine gate_dst (N := 14) rfl ?_); refine Kd.R_lit (Kd.int .u8) _ 5 ?hg (N := 14) ?hd (xs := ([253, (Int.tmod a0 256) % 256, (wrap64 (Int.tdiv a0 256)) % 256] : List Int)) (inner := [.int .u8 253, .int .u8 ((Int.tmod a0 256) % 256), .int .u8 ((wrap64 (Int.tdiv a0 256)) % 256)]) (ok := fun _ => True) (okp := fun _ => True) ?hr ?hp (fun _ hk => hk) trivial (Below.refl _ _) (Nat.le_refl _) (by simp) ?_; (case hd => rfl); (case hg => rfl); (case hr => first | (go_simp; done) | (go_simp; rfl)); (case hp => exact (Reps.one (show Kd.M (Kd.int .u8) _ _ _ 253 [.int .u8 253] from rfl) (Reps.one (show Kd.M (Kd.int .u8) _ _ _ ((Int.tmod a0 256) % 256) [.int .u8 ((Int.tmod a0 256) % 256)] from rfl) (Reps.one (show Kd.M (Kd.int .u8) _ _ _ ((wrap64 (Int.tdiv a0 256)) % 256) [.int .u8 ((wrap64 (Int.tdiv a0 256)) % 256)] from rfl) (Reps.none _ _))))); intro v276 w5 ho6 hb hg_ hnew_; clear hg_ hnew_; (first | rw [← Ny275.out] at ho6 | (simp only [Int.reduceToNat] at ho6; rw [← Ny275.out] at ho6)); have n0_ := Aside0.mk (Kd.R_lower ho6 (below_size (by repeat (first | (with_reducible first | exact HB.out | apply below_alloc | apply pw_below_drewN | apply below_drew1) | exact HB.out)))); have n1_ := Aside0.mk (below_step (by repeat (first | (with_reducible first | exact HB.out | apply below_alloc | apply pw_below_drewN | apply below_drew1) | exact HB.out)) hb); clear HB; have HO277 := n0_; have HB := n1_; clear n0_ n1_; clear hb ho6))
    go_ret
    exact ⟨_, by first | rfl | (simp [errW_none, errW_some] <;> rfl) | (simp [*, errW_none, errW_some] <;> rfl), by (with_reducible repeat (first | apply Kd.R_alloc | apply Kd.R_drewN | apply Kd.R_drew)); exact HO277.out, by repeat (first | (with_reducible first | exact HB.out | apply below_alloc | apply pw_below_drewN | apply below_drew1) | exact HB.out)⟩

/-! ### spec_l3Big: function 125 -/
def spec_l3Big.f (a0 : Int) : Option (List Int) := (spec_l3Put.f (Int.tmod a0 65536)).bind fun t278 => ((spec_l3Put.f (wrap64 (Int.tdiv a0 65536))).bind fun t281 => (if t278.length + t281.length < 140737488355328 then (some (t278 ++ t281)) else (none)))
set_option maxHeartbeats 8000000 in
set_option maxRecDepth 100000 in
theorem spec_l3Big.calls (a0 : Int) (r : List Int) (w : World) (h : spec_l3Big.f a0 = some r) :
    Calls Try.prog 125 #[.int .i64 a0] w fun e w' => ∃ v0_ : Value, e = .returned (v0_) ∧ Kd.R (Kd.int .u8) 5 w' w.heap.size (fun _ => True) v0_ r ∧ Below w.heap.size w w' := by
  have HB := Aside0.mk (Below.refl w.heap.size w)
  have H : ((spec_l3Put.f (Int.tmod a0 65536)).bind fun t278 => ((spec_l3Put.f (wrap64 (Int.tdiv a0 65536))).bind fun t281 => (if t278.length + t281.length < 140737488355328 then (some (t278 ++ t281)) else (none)))) = some r := h
  clear h
  replace H := Option.bind_eq_some_iff.mp H
  obtain ⟨t278, A20, H⟩ := H
  replace H : ((spec_l3Put.f (wrap64 (Int.tdiv a0 65536))).bind fun t281 => (if t278.length + t281.length < 140737488355328 then (some (t278 ++ t281)) else (none))) = some r := H
  have A2 := Aside0.mk A20
  clear A20
  replace H := Option.bind_eq_some_iff.mp H
  obtain ⟨t281, A30, H⟩ := H
  replace H : (if t278.length + t281.length < 140737488355328 then (some (t278 ++ t281)) else (none)) = some r := H
  have A3 := Aside0.mk A30
  clear A30
  by_cases c4 : t278.length + t281.length < 140737488355328
  · rw [if_pos c4] at H
    have LMc4 := Aside0.mk c4
    clear c4
    obtain ⟨y284, hy284⟩ : ∃ y_ : List Int, y_ = (t278 ++ t281) := ⟨_, rfl⟩
    replace H : (some y284) = some r := by first | (rw [hy284]; with_reducible exact H) | (have H2_ := (Option.bind_some _ _).symm.trans H; rw [hy284]; with_reducible exact H2_) | (have H2_ := (Option.bind_some _ _).symm.trans H; with_reducible exact H2_) | with_reducible exact H | (rw [hy284]; exact H) | exact H
    have Ny284 := Aside0.mk hy284
    clear hy284
    obtain rfl := Option.some.inj H
    go_enter Try.func125, Try.ntmps125
    go_wp2_with (first | ((with_reducible refine gate_callee (f := 80) rfl ?_); refine goesL_ (some 5) rfl rfl Try.func80 (by kernel_rfl) rfl #[.int .i64 (Int.tmod a0 65536)] rfl (by (try simp only [List.map_toArray, List.map_cons, List.map_nil]); first | done | rfl | (simp only [List.length_drop, List.length_take]; rfl)) ?_; (with_reducible refine (spec_l3Put.calls (Int.tmod a0 65536) t278 _ A2.out).mono ?_); rintro e w5 ⟨v279, rfl, ho0, hb⟩; refine ⟨_, rfl, ?_⟩; have n0_ := Aside0.mk (Kd.R_lower ho0 (below_size (by repeat (first | (with_reducible first | exact HB.out | apply below_alloc | apply pw_below_drewN | apply below_drew1) | exact HB.out)))); have n1_ := Aside0.mk (below_step (by repeat (first | (with_reducible first | exact HB.out | apply below_alloc | apply pw_below_drewN | apply below_drew1) | exact HB.out)) hb); clear HB; have HO280 := n0_; have HB := n1_; clear n0_ n1_; (try clear hb); (try clear hb2); (try clear hk); (try clear hi); (try clear ho0)) | ((with_reducible refine gate_callee (f := 80) rfl ?_); refine goesL_ (some 8) rfl rfl Try.func80 (by kernel_rfl) rfl #[.int .i64 (wrap64 (Int.tdiv a0 65536))] rfl (by (try simp only [List.map_toArray, List.map_cons, List.map_nil]); first | done | rfl | (simp only [List.length_drop, List.length_take]; rfl)) ?_; (with_reducible refine (spec_l3Put.calls (wrap64 (Int.tdiv a0 65536)) t281 _ A3.out).mono ?_); rintro e w6 ⟨v282, rfl, ho0, hb⟩; refine ⟨_, rfl, ?_⟩; have n0_ := Aside0.mk (Kd.R_elder' (by (with_reducible repeat (first | apply Kd.R_alloc | apply Kd.R_drewN | apply Kd.R_drew)); exact HO280.out) (Kd.R_base ho0) hb); have n1_ := Aside0.mk (Kd.R_lower (Kd.R_new' ho0 (Kd.R_lt (by (with_reducible repeat (first | apply Kd.R_alloc | apply Kd.R_drewN | apply Kd.R_drew)); exact HO280.out))) (below_size (by repeat (first | (with_reducible first | exact HB.out | apply below_alloc | apply pw_below_drewN | apply below_drew1) | exact HB.out)))); have n2_ := Aside0.mk (below_step (by repeat (first | (with_reducible first | exact HB.out | apply below_alloc | apply pw_below_drewN | apply below_drew1) | exact HB.out)) hb); clear HO280; clear HB; have HO280 := n0_; have HO283 := n1_; have HB := n2_; clear n0_ n1_ n2_; (try clear hb); (try clear hb2); (try clear hk); (try clear hi); (try clear ho0); obtain ⟨Ao8, co8, eo8⟩ := Kd.R_slice HO283.out; subst eo8) | ((with_reducible refine gate_builtin (b := .append) (xs := #[.tmp 5, .tmp 8]) rfl ?_); at_builtin; refine Kd.R_append_rows (Kd.int .u8) (w0 := w) w.heap.size rfl (.tmp 5) (.tmp 8) 22 5 (.int .u8 0) 1 rfl Try.underlying22 info5 rfl (by decide) (by omega) v279 t278 t281 _ _ _ (fun k_ => some k_ ≠ (.slice Ao8 t281.length co8 : Value).ownBlock) (fun _ => False) rfl rfl ?aO ?aR (fun _ _ h => h) (fun _ h => h.elim) ?aF ?aB ?aS ?aL ?_; (case aR => repeat (first | exact (Kd.R_reads' HO283.out).2.2 | (with_reducible refine Kd.C_alloc ?_ _) | (with_reducible refine Kd.C_drewN ?_ _) | (with_reducible refine Kd.C_drew ?_))); (case aB => exact (by repeat (first | (with_reducible first | exact HB.out | apply below_alloc | apply pw_below_drewN | apply below_drew1) | exact HB.out))); (case aF => exact (fun k_ hk => Kd.fresh' (Kd.R_lt (by (with_reducible repeat (first | apply Kd.R_alloc | apply Kd.R_drewN | apply Kd.R_drew)); exact HO283.out)) k_ hk)); (case aO => exact (by (with_reducible repeat (first | apply Kd.R_alloc | apply Kd.R_drewN | apply Kd.R_drew)); exact Kd.R_mono HO280.out (fun _ hk => hk.2))); (case aS => exact (below_size (by repeat (first | (with_reducible first | exact HB.out | apply below_alloc | apply pw_below_drewN | apply below_drew1) | exact HB.out)))); (case aL => have := LMc4.out; omega); intro v285 w7 ho hb hg hat; rw [← Ny284.out] at ho; have n0_ := Aside0.mk (Kd.R_after (ok := (fun _ => True)) (by (with_reducible repeat (first | apply Kd.R_alloc | apply Kd.R_drewN | apply Kd.R_drew)); exact HO283.out) hg hat); have n1_ := Aside0.mk (hb); have n2_ := Aside0.mk (ho); clear HO283; clear HB; clear HO280; have HO283 := n0_; have HB := n1_; have HO286 := n2_; clear n0_ n1_ n2_; clear ho hb hg hat))
    go_ret
    exact ⟨_, by first | rfl | (simp [errW_none, errW_some] <;> rfl) | (simp [*, errW_none, errW_some] <;> rfl), by (with_reducible repeat (first | apply Kd.R_alloc | apply Kd.R_drewN | apply Kd.R_drew)); exact Kd.R_mono HO286.out (fun _ hk => trivial), by repeat (first | (with_reducible first | exact HB.out | apply below_alloc | apply pw_below_drewN | apply below_drew1) | exact HB.out)⟩
  · rw [if_neg c4] at H
    exact absurd H (by simp)

end Go.Proofs.Ythjlbpgiaehjnaa.QFnExactTxSum
