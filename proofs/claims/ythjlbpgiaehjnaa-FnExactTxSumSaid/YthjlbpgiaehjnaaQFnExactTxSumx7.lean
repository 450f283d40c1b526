-- written by this session's program (wip/tools/myprint.py)
import Derived.Test.YthjlbpgiaehjnaaQFnExactTxSumx0
import Derived.Test.YthjlbpgiaehjnaaQFnExactTxSumx6
namespace Go.Proofs.Ythjlbpgiaehjnaa.QFnExactTxSum
open Go.RowKit Go.Proofs.YthjlbpgiaehjnaaW.PrintWords Go.Proofs.YthjlbpgiaehjnaaW.PrintLast Go.Proofs.YthjlbpgiaehjnaaW.PrintMore
attribute [local go_sem] max2_int min2_int max_two min_two max_three min_three max_four min_four   -- for this text's walks alone
set_option linter.unusedVariables false
set_option linter.unusedSimpArgs false

/-! ### spec_l3In: function 101 -/
mutual
def spec_l3In.j0 : Nat → List (S34) → Int → Bool → Option (Int)
  | 0, _, _, _ => none
  | k + 1, x0, x1, x23 => if x23 = true then (some 3) else (if 0 ≤ x1 then (if x1 < (x0.length : Int) then (if (((rd_T34 x0 x1).f2).length : Int) > 8 then (some 2) else ((spec_l1All.f k ((rd_T34 x0 x1).f2) 0 9999).bind fun t248 => (if t248 = true then (spec_l3In.l0 k x0 x1 0) else (some 3)))) else (none)) else (none))
def spec_l3In.l0 : Nat → List (S34) → Int → Int → Option (Int)
  | 0, _, _, _ => none
  | k + 1, x0, x1, x6 => if x6 < x1 then (if 0 ≤ x6 then (if x6 < (x0.length : Int) then (if 0 ≤ x1 then (if x1 < (x0.length : Int) then (if ((rd_T34 x0 x6).f0) = ((rd_T34 x0 x1).f0) then (if ((rd_T34 x0 x6).f1) = ((rd_T34 x0 x1).f1) then (some 6) else (spec_l3In.l0 k x0 x1 (wrap64 (x6 + 1)))) else (spec_l3In.l0 k x0 x1 (wrap64 (x6 + 1)))) else (none)) else (none)) else (none)) else (none)) else (some 0)
end
def spec_l3In.f (k : Nat) (l0 : List (S34)) (a1 : Int) : Option (Int) := if 0 ≤ a1 then (if a1 < (l0.length : Int) then ((spec_l1In.f ((rd_T34 l0 a1).f0) 0 2147483646).bind fun t243 => (if t243 = true then ((spec_l1In.f ((rd_T34 l0 a1).f1) 0 3).bind fun t245 => (spec_l3In.j0 k l0 a1 (!t245))) else (spec_l3In.j0 k l0 a1 true))) else (none)) else (none)
theorem spec_l3In.mono_l : ∀ k, (∀ y0 y1 y2, LeO (spec_l3In.j0 k y0 y1 y2) (spec_l3In.j0 (k + 1) y0 y1 y2)) ∧ (∀ y0 y1 y2, LeO (spec_l3In.l0 k y0 y1 y2) (spec_l3In.l0 (k + 1) y0 y1 y2))
  | 0 => ⟨fun _ _ _ r h => by simp [spec_l3In.j0] at h, fun _ _ _ r h => by simp [spec_l3In.l0] at h⟩
  | k + 1 => by
    obtain ⟨ih0, ih1⟩ := spec_l3In.mono_l k
    refine ⟨?_, ?_⟩
    · intro y0 y1 y2
      unfold spec_l3In.j0
      repeat' first
      | (with_reducible exact ih0 _ _ _)
      | (with_reducible exact ih1 _ _ _)
      | (with_reducible exact spec_l1All.mono _ _ _ _)
      | (with_reducible exact LeO.refl _)
      | (with_reducible exact LeO.none _)
      | (with_reducible refine LeO.ite ?_ ?_)
      | (with_reducible refine LeO.bind ?_ (fun _ => ?_))
      | exact ih0 _ _ _
      | exact ih1 _ _ _
      | exact spec_l1All.mono _ _ _ _
      | exact LeO.none _
      | refine LeO.ite ?_ ?_
      | refine LeO.bind ?_ (fun _ => ?_)
    · intro y0 y1 y2
      unfold spec_l3In.l0
      repeat' first
      | (with_reducible exact ih0 _ _ _)
      | (with_reducible exact ih1 _ _ _)
      | (with_reducible exact spec_l1All.mono _ _ _ _)
      | (with_reducible exact LeO.refl _)
      | (with_reducible exact LeO.none _)
      | (with_reducible refine LeO.ite ?_ ?_)
      | (with_reducible refine LeO.bind ?_ (fun _ => ?_))
      | exact ih0 _ _ _
      | exact ih1 _ _ _
      | exact spec_l1All.mono _ _ _ _
      | exact LeO.none _
      | refine LeO.ite ?_ ?_
      | refine LeO.bind ?_ (fun _ => ?_)
theorem spec_l3In.mono : ∀ a0 a1 k, LeO (spec_l3In.f k a0 a1) (spec_l3In.f (k + 1) a0 a1) := by
  intro a0 a1 k
  obtain ⟨ih0, ih1⟩ := spec_l3In.mono_l k
  unfold spec_l3In.f
  repeat' first
      | (with_reducible exact ih0 _ _ _)
      | (with_reducible exact ih1 _ _ _)
      | (with_reducible exact spec_l1All.mono _ _ _ _)
      | (with_reducible exact LeO.refl _)
      | (with_reducible exact LeO.none _)
      | (with_reducible refine LeO.ite ?_ ?_)
      | (with_reducible refine LeO.bind ?_ (fun _ => ?_))
      | exact ih0 _ _ _
      | exact ih1 _ _ _
      | exact spec_l1All.mono _ _ _ _
      | exact LeO.none _
      | refine LeO.ite ?_ ?_
      | refine LeO.bind ?_ (fun _ => ?_)
set_option maxHeartbeats 8000000 in
set_option maxRecDepth 100000 in
theorem spec_l3In.calls (k : Nat) (A0 : Option Addr) (c0 : Nat) (l0 : List (S34)) (a1 : Int) (r : Int) (w : World) (hr0 : Kd.C k34 w A0 l0.length l0) (hc0 : l0.length ≤ c0) (h : spec_l3In.f k l0 a1 = some r) :
    Calls Try.prog 101 #[.slice A0 l0.length c0, .int .i64 a1] w fun e w' => e = .returned (.int .i64 r) ∧ Drawn0 w w' := by
  have hfd34_0 : ∀ (c0 c1 c2 : Value) (w : World), (Instr.field 34 (.agg #[c0, c1, c2]) 0).run Try.prog w = .ok c0 w := by intro c0 c1 c2 w; kernel_rfl
  have hfd34_1 : ∀ (c0 c1 c2 : Value) (w : World), (Instr.field 34 (.agg #[c0, c1, c2]) 1).run Try.prog w = .ok c1 w := by intro c0 c1 c2 w; kernel_rfl
  have hu34 := Try.underlying34
  have HR0 := Aside0.mk hr0
  have HC0 := Aside0.mk hc0
  clear hr0 hc0
  have H : (if 0 ≤ a1 then (if a1 < (l0.length : Int) then ((spec_l1In.f ((rd_T34 l0 a1).f0) 0 2147483646).bind fun t243 => (if t243 = true then ((spec_l1In.f ((rd_T34 l0 a1).f1) 0 3).bind fun t245 => (spec_l3In.j0 k l0 a1 (!t245))) else (spec_l3In.j0 k l0 a1 true))) else (none)) else (none)) = some r := h
  clear h
  by_cases c3 : 0 ≤ a1
  · rw [if_pos c3] at H
    have c3b0 : decide (0 ≤ a1) = true := decide_eq_true c3
    clear c3
    by_cases c4 : a1 < (l0.length : Int)
    · rw [if_pos c4] at H
      have c4b0 : decide (a1 < (l0.length : Int)) = true := decide_eq_true c4
      clear c4
      have HC5 := Aside0.mk H
      clear H
      have p241 : 0 ≤ (a1 : Int) := of_decide_eq_true (by first | (with_reducible assumption) | assumption)
      have q241 : a1 < (l0.length : Int) := of_decide_eq_true (by first | (with_reducible assumption) | assumption)
      obtain ⟨ad241, A241_2, c241_2, e241, hx241_0, hx241_1, hx241_2, hl241_2, hi241_2⟩ := at_T34 HR0.out a1 p241 q241
      cases e241
      have HR241_2 := Aside0.mk hi241_2
      have HC241_2 := Aside0.mk hl241_2
      clear hi241_2 hl241_2
      replace p241 := eq_true p241
      replace q241 := eq_true q241
      go_enter Try.func101, Try.ntmps101
      go_upto_region 2 with (fail)
      repeat (go_quiet (fail); go_upto_region 2 with (fail))
      go_cut [23] (fun v23 wc => ∃ (kq : Nat) (x23_4 : Bool), v23 = .bool x23_4 ∧ Aside0 (spec_l3In.j0 kq l0 a1 x23_4 = some r) ∧ Aside0 (kq ≤ k) ∧ Drawn0 w wc)
      case first =>
        have H := HC5.out
        clear HC5
        replace H := Option.bind_eq_some_iff.mp H
        obtain ⟨t243, A60, H⟩ := H
        replace H : (if t243 = true then ((spec_l1In.f ((rd_T34 l0 a1).f1) 0 3).bind fun t245 => (spec_l3In.j0 k l0 a1 (!t245))) else (spec_l3In.j0 k l0 a1 true)) = some r := H
        have A6 := Aside0.mk A60
        clear A60
        by_cases c7 : t243 = true
        · subst c7
          have H1 : ((spec_l1In.f ((rd_T34 l0 a1).f1) 0 3).bind fun t245 => (spec_l3In.j0 k l0 a1 (!t245))) = some r := by rw [if_pos rfl] at H; exact H
          clear H
          have H := H1
          clear H1
          replace H := Option.bind_eq_some_iff.mp H
          obtain ⟨t245, A80, H⟩ := H
          replace H : (spec_l3In.j0 k l0 a1 (!t245)) = some r := H
          have A8 := Aside0.mk A80
          clear A80
          have H' := Aside0.mk H
          clear H
          have p242 : 0 ≤ (a1 : Int) := of_decide_eq_true (by first | (with_reducible assumption) | assumption)
          have q242 : a1 < (l0.length : Int) := of_decide_eq_true (by first | (with_reducible assumption) | assumption)
          obtain ⟨ad242, A242_2, c242_2, e242, hx242_0, hx242_1, hx242_2, hl242_2, hi242_2⟩ := at_T34 HR0.out a1 p242 q242
          obtain rfl : ad241 = ad242 := (by injection e242)
          have HR242_2 := Aside0.mk hi242_2
          have HC242_2 := Aside0.mk hl242_2
          clear hi242_2 hl242_2
          replace p242 := eq_true p242
          replace q242 := eq_true q242
          go_wp2_with (first | (go_at_call 81; (with_reducible refine (spec_l1In.calls ((rd_T34 l0 a1).f0) 0 2147483646 true _ A6.out).mono ?_); rintro e w' ⟨rfl, ⟨nd, rfl⟩⟩; (try first | exact ⟨rfl, _, World.drewN_drewN _ _ _⟩ | exact ⟨rfl, _, Eq.trans (World.drewN_drewN _ _ _) (congrArg (World.drewN _) (Nat.add_assoc _ _ _))⟩); have p244 : 0 ≤ (a1 : Int) := of_decide_eq_true (by first | (with_reducible assumption) | assumption); have q244 : a1 < (l0.length : Int) := of_decide_eq_true (by first | (with_reducible assumption) | assumption); obtain ⟨ad244, A244_2, c244_2, e244, hx244_0, hx244_1, hx244_2, hl244_2, hi244_2⟩ := at_T34 HR0.out a1 p244 q244; obtain rfl : ad241 = ad244 := (by injection e244); have HR244_2 := Aside0.mk hi244_2; have HC244_2 := Aside0.mk hl244_2; clear hi244_2 hl244_2; replace p244 := eq_true p244; replace q244 := eq_true q244; have ea_ := Option.some.inj (hx242_2.symm.trans hx244_2); injection ea_ with ea_ en_ ec_; subst ea_; subst ec_; clear en_) | (go_at_call 81; (with_reducible refine (spec_l1In.calls ((rd_T34 l0 a1).f1) 0 3 t245 _ A8.out).mono ?_); rintro e w' ⟨rfl, ⟨nd, rfl⟩⟩; (try first | exact ⟨rfl, _, World.drewN_drewN _ _ _⟩ | exact ⟨rfl, _, Eq.trans (World.drewN_drewN _ _ _) (congrArg (World.drewN _) (Nat.add_assoc _ _ _))⟩)))
          repeat (go_quiet (first | (go_at_call 81; (with_reducible refine (spec_l1In.calls ((rd_T34 l0 a1).f0) 0 2147483646 true _ A6.out).mono ?_); rintro e w' ⟨rfl, ⟨nd, rfl⟩⟩; (try first | exact ⟨rfl, _, World.drewN_drewN _ _ _⟩ | exact ⟨rfl, _, Eq.trans (World.drewN_drewN _ _ _) (congrArg (World.drewN _) (Nat.add_assoc _ _ _))⟩); have p244 : 0 ≤ (a1 : Int) := of_decide_eq_true (by first | (with_reducible assumption) | assumption); have q244 : a1 < (l0.length : Int) := of_decide_eq_true (by first | (with_reducible assumption) | assumption); obtain ⟨ad244, A244_2, c244_2, e244, hx244_0, hx244_1, hx244_2, hl244_2, hi244_2⟩ := at_T34 HR0.out a1 p244 q244; obtain rfl : ad241 = ad244 := (by injection e244); have HR244_2 := Aside0.mk hi244_2; have HC244_2 := Aside0.mk hl244_2; clear hi244_2 hl244_2; replace p244 := eq_true p244; replace q244 := eq_true q244; have ea_ := Option.some.inj (hx242_2.symm.trans hx244_2); injection ea_ with ea_ en_ ec_; subst ea_; subst ec_; clear en_) | (go_at_call 81; (with_reducible refine (spec_l1In.calls ((rd_T34 l0 a1).f1) 0 3 t245 _ A8.out).mono ?_); rintro e w' ⟨rfl, ⟨nd, rfl⟩⟩; (try first | exact ⟨rfl, _, World.drewN_drewN _ _ _⟩ | exact ⟨rfl, _, Eq.trans (World.drewN_drewN _ _ _) (congrArg (World.drewN _) (Nat.add_assoc _ _ _))⟩))); try go_wp2_with (first | (go_at_call 81; (with_reducible refine (spec_l1In.calls ((rd_T34 l0 a1).f0) 0 2147483646 true _ A6.out).mono ?_); rintro e w' ⟨rfl, ⟨nd, rfl⟩⟩; (try first | exact ⟨rfl, _, World.drewN_drewN _ _ _⟩ | exact ⟨rfl, _, Eq.trans (World.drewN_drewN _ _ _) (congrArg (World.drewN _) (Nat.add_assoc _ _ _))⟩); have p244 : 0 ≤ (a1 : Int) := of_decide_eq_true (by first | (with_reducible assumption) | assumption); have q244 : a1 < (l0.length : Int) := of_decide_eq_true (by first | (with_reducible assumption) | assumption); obtain ⟨ad244, A244_2, c244_2, e244, hx244_0, hx244_1, hx244_2, hl244_2, hi244_2⟩ := at_T34 HR0.out a1 p244 q244; obtain rfl : ad241 = ad244 := (by injection e244); have HR244_2 := Aside0.mk hi244_2; have HC244_2 := Aside0.mk hl244_2; clear hi244_2 hl244_2; replace p244 := eq_true p244; replace q244 := eq_true q244; have ea_ := Option.some.inj (hx242_2.symm.trans hx244_2); injection ea_ with ea_ en_ ec_; subst ea_; subst ec_; clear en_) | (go_at_call 81; (with_reducible refine (spec_l1In.calls ((rd_T34 l0 a1).f1) 0 3 t245 _ A8.out).mono ?_); rintro e w' ⟨rfl, ⟨nd, rfl⟩⟩; (try first | exact ⟨rfl, _, World.drewN_drewN _ _ _⟩ | exact ⟨rfl, _, Eq.trans (World.drewN_drewN _ _ _) (congrArg (World.drewN _) (Nat.add_assoc _ _ _))⟩))))
          go_meet
          case rel => exact ⟨_, (!t245), (by first | rfl | (simp; done) | (simp [*]; done)), H', ⟨by first | omega | exact Nat.le_refl _⟩, by repeat (first | exact Drawn0.refl _ | apply Drawn0.step)⟩
        · replace c7 := Bool.eq_false_iff.mpr c7
          subst c7
          have H1 : (spec_l3In.j0 k l0 a1 true) = some r := by rw [if_neg (show ¬ (false = true) by decide)] at H; exact H
          clear H
          have H := H1
          clear H1
          have H' := Aside0.mk H
          clear H
          have p242 : 0 ≤ (a1 : Int) := of_decide_eq_true (by first | (with_reducible assumption) | assumption)
          have q242 : a1 < (l0.length : Int) := of_decide_eq_true (by first | (with_reducible assumption) | assumption)
          obtain ⟨ad242, A242_2, c242_2, e242, hx242_0, hx242_1, hx242_2, hl242_2, hi242_2⟩ := at_T34 HR0.out a1 p242 q242
          obtain rfl : ad241 = ad242 := (by injection e242)
          have HR242_2 := Aside0.mk hi242_2
          have HC242_2 := Aside0.mk hl242_2
          clear hi242_2 hl242_2
          replace p242 := eq_true p242
          replace q242 := eq_true q242
          go_wp2_with (first | (go_at_call 81; (with_reducible refine (spec_l1In.calls ((rd_T34 l0 a1).f0) 0 2147483646 false _ A6.out).mono ?_); rintro e w' ⟨rfl, ⟨nd, rfl⟩⟩; (try first | exact ⟨rfl, _, World.drewN_drewN _ _ _⟩ | exact ⟨rfl, _, Eq.trans (World.drewN_drewN _ _ _) (congrArg (World.drewN _) (Nat.add_assoc _ _ _))⟩)))
          repeat (go_quiet (first | (go_at_call 81; (with_reducible refine (spec_l1In.calls ((rd_T34 l0 a1).f0) 0 2147483646 false _ A6.out).mono ?_); rintro e w' ⟨rfl, ⟨nd, rfl⟩⟩; (try first | exact ⟨rfl, _, World.drewN_drewN _ _ _⟩ | exact ⟨rfl, _, Eq.trans (World.drewN_drewN _ _ _) (congrArg (World.drewN _) (Nat.add_assoc _ _ _))⟩))); try go_wp2_with (first | (go_at_call 81; (with_reducible refine (spec_l1In.calls ((rd_T34 l0 a1).f0) 0 2147483646 false _ A6.out).mono ?_); rintro e w' ⟨rfl, ⟨nd, rfl⟩⟩; (try first | exact ⟨rfl, _, World.drewN_drewN _ _ _⟩ | exact ⟨rfl, _, Eq.trans (World.drewN_drewN _ _ _) (congrArg (World.drewN _) (Nat.add_assoc _ _ _))⟩))))
          go_meet
          case rel => exact ⟨_, (true), (by first | rfl | (simp; done) | (simp [*]; done)), H', ⟨by first | omega | exact Nat.le_refl _⟩, by repeat (first | exact Drawn0.refl _ | apply Drawn0.step)⟩
      case rest =>
        clear HC5
        try clear c1
        try clear c2
        try clear p2
        try clear q2
        try clear hx2
        try clear c3
        try clear c3b0
        try clear c4
        try clear c4b0
        try clear c7
        try clear hx241_0
        try clear hx241_1
        try clear hx241_2
        try clear hx242_0
        try clear hx242_1
        try clear hx242_2
        try clear hx244_0
        try clear hx244_1
        try clear hx244_2
        try clear p241
        try clear p242
        try clear p244
        try clear q241
        try clear q242
        try clear q244
        obtain ⟨kq, x23_4, rfl, HA, HJ4, ⟨mc4, rfl⟩⟩ := hcut
        cases kq with
        | zero => exact absurd HA.out (by simp [spec_l3In.j0])
        | succ kj4 =>
          have H := HA.out
          clear HA
          simp only [spec_l3In.j0] at H
          by_cases c9 : x23_4 = true
          · subst c9
            have H1 : (some 3) = some r := by rw [if_pos rfl] at H; exact H
            clear H
            have H := H1
            clear H1
            obtain rfl := Option.some.inj H
            go_wp2
            repeat (go_quiet (fail); try go_wp2)
            go_ret
            exact ⟨by first | rfl | (simp; done) | (simp [*]; done), by repeat (first | exact Drawn0.refl _ | apply Drawn0.step)⟩
          · replace c9 := Bool.eq_false_iff.mpr c9
            subst c9
            have H1 : (if 0 ≤ a1 then (if a1 < (l0.length : Int) then (if (((rd_T34 l0 a1).f2).length : Int) > 8 then (some 2) else ((spec_l1All.f kj4 ((rd_T34 l0 a1).f2) 0 9999).bind fun t248 => (if t248 = true then (spec_l3In.l0 kj4 l0 a1 0) else (some 3)))) else (none)) else (none)) = some r := by rw [if_neg (show ¬ (false = true) by decide)] at H; exact H
            clear H
            have H := H1
            clear H1
            by_cases c10 : 0 ≤ a1
            · rw [if_pos c10] at H
              have c10b0 : decide (0 ≤ a1) = true := decide_eq_true c10
              clear c10
              by_cases c11 : a1 < (l0.length : Int)
              · rw [if_pos c11] at H
                have c11b0 : decide (a1 < (l0.length : Int)) = true := decide_eq_true c11
                clear c11
                by_cases c12 : (((rd_T34 l0 a1).f2).length : Int) > 8
                · rw [if_pos c12] at H
                  have c12b0 : decide (8 < (((rd_T34 l0 a1).f2).length : Int)) = true := decide_eq_true c12
                  have c12b1 : decide (8 < ((rd_T34 l0 a1).f2).length) = true := decide_eq_true (by omega)
                  clear c12
                  obtain rfl := Option.some.inj H
                  have p246 : 0 ≤ (a1 : Int) := of_decide_eq_true (by first | (with_reducible assumption) | assumption)
                  have q246 : a1 < (l0.length : Int) := of_decide_eq_true (by first | (with_reducible assumption) | assumption)
                  obtain ⟨ad246, A246_2, c246_2, e246, hx246_0, hx246_1, hx246_2, hl246_2, hi246_2⟩ := at_T34 HR0.out a1 p246 q246
                  obtain rfl : ad241 = ad246 := (by injection e246)
                  have HR246_2 := Aside0.mk hi246_2
                  have HC246_2 := Aside0.mk hl246_2
                  clear hi246_2 hl246_2
                  replace p246 := eq_true p246
                  replace q246 := eq_true q246
                  go_wp2
                  repeat (go_quiet (fail); try go_wp2)
                  go_ret
                  exact ⟨by first | rfl | (simp; done) | (simp [*]; done), by repeat (first | exact Drawn0.refl _ | apply Drawn0.step)⟩
                · rw [if_neg c12] at H
                  have c12b0 : decide (8 < (((rd_T34 l0 a1).f2).length : Int)) = false := decide_eq_false c12
                  have c12b1 : decide (8 < ((rd_T34 l0 a1).f2).length) = false := decide_eq_false (by omega)
                  clear c12
                  replace H := Option.bind_eq_some_iff.mp H
                  obtain ⟨t248, A130, H⟩ := H
                  replace H : (if t248 = true then (spec_l3In.l0 kj4 l0 a1 0) else (some 3)) = some r := H
                  have A13 := Aside0.mk A130
                  clear A130
                  by_cases c14 : t248 = true
                  · subst c14
                    have H1 : (spec_l3In.l0 kj4 l0 a1 0) = some r := by rw [if_pos rfl] at H; exact H
                    clear H
                    have H := H1
                    clear H1
                    have H' := Aside0.mk H
                    clear H
                    have p246 : 0 ≤ (a1 : Int) := of_decide_eq_true (by first | (with_reducible assumption) | assumption)
                    have q246 : a1 < (l0.length : Int) := of_decide_eq_true (by first | (with_reducible assumption) | assumption)
                    obtain ⟨ad246, A246_2, c246_2, e246, hx246_0, hx246_1, hx246_2, hl246_2, hi246_2⟩ := at_T34 HR0.out a1 p246 q246
                    obtain rfl : ad241 = ad246 := (by injection e246)
                    have HR246_2 := Aside0.mk hi246_2
                    have HC246_2 := Aside0.mk hl246_2
                    clear hi246_2 hl246_2
                    replace p246 := eq_true p246
                    replace q246 := eq_true q246
                    have p247 : 0 ≤ (a1 : Int) := of_decide_eq_true (by first | (with_reducible assumption) | assumption)
                    have q247 : a1 < (l0.length : Int) := of_decide_eq_true (by first | (with_reducible assumption) | assumption)
                    obtain ⟨ad247, A247_2, c247_2, e247, hx247_0, hx247_1, hx247_2, hl247_2, hi247_2⟩ := at_T34 HR0.out a1 p247 q247
                    obtain rfl : ad241 = ad247 := (by injection e247)
                    have HR247_2 := Aside0.mk hi247_2
                    have HC247_2 := Aside0.mk hl247_2
                    clear hi247_2 hl247_2
                    replace p247 := eq_true p247
                    replace q247 := eq_true q247
                    have ea_ := Option.some.inj (hx246_2.symm.trans hx247_2)
                    injection ea_ with ea_ en_ ec_
                    subst ea_
                    subst ec_
                    clear en_
                    go_wp2_with (first | (go_at_call 137; (with_reducible refine (spec_l1All.calls kj4 _ _ ((rd_T34 l0 a1).f2) 0 9999 true _ ?side1 ?side2 A13.out).mono ?_); (case side1 => repeat (first | exact HR247_2.out | (with_reducible refine Kd.C_alloc ?_ _) | (with_reducible refine Kd.C_drewN ?_ _) | (with_reducible refine Kd.C_drew ?_))); (case side2 => exact HC247_2.out); rintro e w' ⟨rfl, ⟨nd, rfl⟩⟩; (try first | exact ⟨rfl, _, World.drewN_drewN _ _ _⟩ | exact ⟨rfl, _, Eq.trans (World.drewN_drewN _ _ _) (congrArg (World.drewN _) (Nat.add_assoc _ _ _))⟩)))
                    repeat (go_quiet (first | (go_at_call 137; (with_reducible refine (spec_l1All.calls kj4 _ _ ((rd_T34 l0 a1).f2) 0 9999 true _ ?side1 ?side2 A13.out).mono ?_); (case side1 => repeat (first | exact HR247_2.out | (with_reducible refine Kd.C_alloc ?_ _) | (with_reducible refine Kd.C_drewN ?_ _) | (with_reducible refine Kd.C_drew ?_))); (case side2 => exact HC247_2.out); rintro e w' ⟨rfl, ⟨nd, rfl⟩⟩; (try first | exact ⟨rfl, _, World.drewN_drewN _ _ _⟩ | exact ⟨rfl, _, Eq.trans (World.drewN_drewN _ _ _) (congrArg (World.drewN _) (Nat.add_assoc _ _ _))⟩))); try go_wp2_with (first | (go_at_call 137; (with_reducible refine (spec_l1All.calls kj4 _ _ ((rd_T34 l0 a1).f2) 0 9999 true _ ?side1 ?side2 A13.out).mono ?_); (case side1 => repeat (first | exact HR247_2.out | (with_reducible refine Kd.C_alloc ?_ _) | (with_reducible refine Kd.C_drewN ?_ _) | (with_reducible refine Kd.C_drew ?_))); (case side2 => exact HC247_2.out); rintro e w' ⟨rfl, ⟨nd, rfl⟩⟩; (try first | exact ⟨rfl, _, World.drewN_drewN _ _ _⟩ | exact ⟨rfl, _, Eq.trans (World.drewN_drewN _ _ _) (congrArg (World.drewN _) (Nat.add_assoc _ _ _))⟩))))
                    go_loopg [6] kj4 (fun kq v6 w' => ∃ (x6_2 : Int), v6 = .int .i64 x6_2 ∧ Aside0 (spec_l3In.l0 kq l0 a1 x6_2 = some r) ∧ Aside0 (kq ≤ kj4) ∧ Drawn0 w w')
                    case atStart => exact ⟨(0), (by first | rfl | (simp; done) | (simp [*]; done)), H', ⟨Nat.le_refl _⟩, by repeat (first | exact Drawn0.refl _ | apply Drawn0.step)⟩
                    case round =>
                      clear H'
                      try clear c1
                      try clear c2
                      try clear p2
                      try clear q2
                      try clear hx2
                      try clear c3
                      try clear c3b0
                      try clear c4
                      try clear c4b0
                      try clear c7
                      try clear c9
                      try clear c10
                      try clear c10b0
                      try clear c11
                      try clear c11b0
                      try clear c12
                      try clear c12b0
                      try clear c12b1
                      try clear c14
                      try clear hx241_0
                      try clear hx241_1
                      try clear hx241_2
                      try clear hx242_0
                      try clear hx242_1
                      try clear hx242_2
                      try clear hx244_0
                      try clear hx244_1
                      try clear hx244_2
                      try clear hx246_0
                      try clear hx246_1
                      try clear hx246_2
                      try clear hx247_0
                      try clear hx247_1
                      try clear hx247_2
                      try clear p2
                      try clear p241
                      try clear p242
                      try clear p244
                      try clear p246
                      try clear p247
                      try clear q2
                      try clear q241
                      try clear q242
                      try clear q244
                      try clear q246
                      try clear q247
                      obtain ⟨x6_2, rfl, HA, HK2, ⟨m2, rfl⟩⟩ := hrel
                      cases gk with
                      | zero => exact absurd HA.out (by simp [spec_l3In.l0])
                      | succ k2 =>
                        have H := HA.out
                        clear HA
                        simp only [spec_l3In.l0] at H
                        by_cases c15 : x6_2 < a1
                        · rw [if_pos c15] at H
                          have c15b0 : decide (x6_2 < a1) = true := decide_eq_true c15
                          clear c15
                          by_cases c16 : 0 ≤ x6_2
                          · rw [if_pos c16] at H
                            have c16b0 : decide (0 ≤ x6_2) = true := decide_eq_true c16
                            clear c16
                            by_cases c17 : x6_2 < (l0.length : Int)
                            · rw [if_pos c17] at H
                              have c17b0 : decide (x6_2 < (l0.length : Int)) = true := decide_eq_true c17
                              clear c17
                              by_cases c18 : 0 ≤ a1
                              · rw [if_pos c18] at H
                                have c18b0 : decide (0 ≤ a1) = true := decide_eq_true c18
                                clear c18
                                by_cases c19 : a1 < (l0.length : Int)
                                · rw [if_pos c19] at H
                                  have c19b0 : decide (a1 < (l0.length : Int)) = true := decide_eq_true c19
                                  clear c19
                                  by_cases c20 : ((rd_T34 l0 x6_2).f0) = ((rd_T34 l0 a1).f0)
                                  · rw [if_pos c20] at H
                                    have c20b0 : (((rd_T34 l0 x6_2).f0) == ((rd_T34 l0 a1).f0)) = true := beq_iff_eq.mpr c20
                                    have c20b1 : (((rd_T34 l0 x6_2).f0) != ((rd_T34 l0 a1).f0)) = false := bne_eq_false_iff_eq.mpr c20
                                    clear c20
                                    by_cases c21 : ((rd_T34 l0 x6_2).f1) = ((rd_T34 l0 a1).f1)
                                    · rw [if_pos c21] at H
                                      have c21b0 : (((rd_T34 l0 x6_2).f1) == ((rd_T34 l0 a1).f1)) = true := beq_iff_eq.mpr c21
                                      have c21b1 : (((rd_T34 l0 x6_2).f1) != ((rd_T34 l0 a1).f1)) = false := bne_eq_false_iff_eq.mpr c21
                                      clear c21
                                      obtain rfl := Option.some.inj H
                                      have p249 : 0 ≤ (x6_2 : Int) := of_decide_eq_true (by first | (with_reducible assumption) | assumption)
                                      have q249 : x6_2 < (l0.length : Int) := of_decide_eq_true (by first | (with_reducible assumption) | assumption)
                                      obtain ⟨ad249, A249_2, c249_2, e249, hx249_0, hx249_1, hx249_2, hl249_2, hi249_2⟩ := at_T34 HR0.out x6_2 p249 q249
                                      obtain rfl : ad241 = ad249 := (by injection e249)
                                      have HR249_2 := Aside0.mk hi249_2
                                      have HC249_2 := Aside0.mk hl249_2
                                      clear hi249_2 hl249_2
                                      replace p249 := eq_true p249
                                      replace q249 := eq_true q249
                                      have p250 : 0 ≤ (a1 : Int) := of_decide_eq_true (by first | (with_reducible assumption) | assumption)
                                      have q250 : a1 < (l0.length : Int) := of_decide_eq_true (by first | (with_reducible assumption) | assumption)
                                      obtain ⟨ad250, A250_2, c250_2, e250, hx250_0, hx250_1, hx250_2, hl250_2, hi250_2⟩ := at_T34 HR0.out a1 p250 q250
                                      obtain rfl : ad241 = ad250 := (by injection e250)
                                      have HR250_2 := Aside0.mk hi250_2
                                      have HC250_2 := Aside0.mk hl250_2
                                      clear hi250_2 hl250_2
                                      replace p250 := eq_true p250
                                      replace q250 := eq_true q250
                                      have p251 : 0 ≤ (x6_2 : Int) := of_decide_eq_true (by first | (with_reducible assumption) | assumption)
                                      have q251 : x6_2 < (l0.length : Int) := of_decide_eq_true (by first | (with_reducible assumption) | assumption)
                                      obtain ⟨ad251, A251_2, c251_2, e251, hx251_0, hx251_1, hx251_2, hl251_2, hi251_2⟩ := at_T34 HR0.out x6_2 p251 q251
                                      obtain rfl : ad241 = ad251 := (by injection e251)
                                      have HR251_2 := Aside0.mk hi251_2
                                      have HC251_2 := Aside0.mk hl251_2
                                      clear hi251_2 hl251_2
                                      replace p251 := eq_true p251
                                      replace q251 := eq_true q251
                                      have ea_ := Option.some.inj (hx249_2.symm.trans hx251_2)
                                      injection ea_ with ea_ en_ ec_
                                      subst ea_
                                      subst ec_
                                      clear en_
                                      have p252 : 0 ≤ (a1 : Int) := of_decide_eq_true (by first | (with_reducible assumption) | assumption)
                                      have q252 : a1 < (l0.length : Int) := of_decide_eq_true (by first | (with_reducible assumption) | assumption)
                                      obtain ⟨ad252, A252_2, c252_2, e252, hx252_0, hx252_1, hx252_2, hl252_2, hi252_2⟩ := at_T34 HR0.out a1 p252 q252
                                      obtain rfl : ad241 = ad252 := (by injection e252)
                                      have HR252_2 := Aside0.mk hi252_2
                                      have HC252_2 := Aside0.mk hl252_2
                                      clear hi252_2 hl252_2
                                      replace p252 := eq_true p252
                                      replace q252 := eq_true q252
                                      have ea_ := Option.some.inj (hx250_2.symm.trans hx252_2)
                                      injection ea_ with ea_ en_ ec_
                                      subst ea_
                                      subst ec_
                                      clear en_
                                      go_wp2
                                      repeat (go_quiet (fail); try go_wp2)
                                      go_ret
                                      exact ⟨by first | rfl | (simp; done) | (simp [*]; done), by repeat (first | exact Drawn0.refl _ | apply Drawn0.step)⟩
                                    · rw [if_neg c21] at H
                                      have c21b0 : (((rd_T34 l0 x6_2).f1) == ((rd_T34 l0 a1).f1)) = false := beq_eq_false_iff_ne.mpr c21
                                      have c21b1 : (((rd_T34 l0 x6_2).f1) != ((rd_T34 l0 a1).f1)) = true := bne_iff_ne.mpr c21
                                      have H' := Aside0.mk H
                                      clear H
                                      have p249 : 0 ≤ (x6_2 : Int) := of_decide_eq_true (by first | (with_reducible assumption) | assumption)
                                      have q249 : x6_2 < (l0.length : Int) := of_decide_eq_true (by first | (with_reducible assumption) | assumption)
                                      obtain ⟨ad249, A249_2, c249_2, e249, hx249_0, hx249_1, hx249_2, hl249_2, hi249_2⟩ := at_T34 HR0.out x6_2 p249 q249
                                      obtain rfl : ad241 = ad249 := (by injection e249)
                                      have HR249_2 := Aside0.mk hi249_2
                                      have HC249_2 := Aside0.mk hl249_2
                                      clear hi249_2 hl249_2
                                      replace p249 := eq_true p249
                                      replace q249 := eq_true q249
                                      have p250 : 0 ≤ (a1 : Int) := of_decide_eq_true (by first | (with_reducible assumption) | assumption)
                                      have q250 : a1 < (l0.length : Int) := of_decide_eq_true (by first | (with_reducible assumption) | assumption)
                                      obtain ⟨ad250, A250_2, c250_2, e250, hx250_0, hx250_1, hx250_2, hl250_2, hi250_2⟩ := at_T34 HR0.out a1 p250 q250
                                      obtain rfl : ad241 = ad250 := (by injection e250)
                                      have HR250_2 := Aside0.mk hi250_2
                                      have HC250_2 := Aside0.mk hl250_2
                                      clear hi250_2 hl250_2
                                      replace p250 := eq_true p250
                                      replace q250 := eq_true q250
                                      have p251 : 0 ≤ (x6_2 : Int) := of_decide_eq_true (by first | (with_reducible assumption) | assumption)
                                      have q251 : x6_2 < (l0.length : Int) := of_decide_eq_true (by first | (with_reducible assumption) | assumption)
                                      obtain ⟨ad251, A251_2, c251_2, e251, hx251_0, hx251_1, hx251_2, hl251_2, hi251_2⟩ := at_T34 HR0.out x6_2 p251 q251
                                      obtain rfl : ad241 = ad251 := (by injection e251)
                                      have HR251_2 := Aside0.mk hi251_2
                                      have HC251_2 := Aside0.mk hl251_2
                                      clear hi251_2 hl251_2
                                      replace p251 := eq_true p251
                                      replace q251 := eq_true q251
                                      have ea_ := Option.some.inj (hx249_2.symm.trans hx251_2)
                                      injection ea_ with ea_ en_ ec_
                                      subst ea_
                                      subst ec_
                                      clear en_
                                      have p252 : 0 ≤ (a1 : Int) := of_decide_eq_true (by first | (with_reducible assumption) | assumption)
                                      have q252 : a1 < (l0.length : Int) := of_decide_eq_true (by first | (with_reducible assumption) | assumption)
                                      obtain ⟨ad252, A252_2, c252_2, e252, hx252_0, hx252_1, hx252_2, hl252_2, hi252_2⟩ := at_T34 HR0.out a1 p252 q252
                                      obtain rfl : ad241 = ad252 := (by injection e252)
                                      have HR252_2 := Aside0.mk hi252_2
                                      have HC252_2 := Aside0.mk hl252_2
                                      clear hi252_2 hl252_2
                                      replace p252 := eq_true p252
                                      replace q252 := eq_true q252
                                      have ea_ := Option.some.inj (hx250_2.symm.trans hx252_2)
                                      injection ea_ with ea_ en_ ec_
                                      subst ea_
                                      subst ec_
                                      clear en_
                                      go_wp2
                                      repeat (go_quiet (fail); try go_wp2)
                                      go_roundg k2
                                      case measure => have := HJ4.out; have := HK2.out; omega
                                      case rel => exact ⟨(wrap64 (x6_2 + 1)), (by first | rfl | (simp; done) | (simp [*]; done)), H', ⟨by have := HJ4.out; have := HK2.out; omega⟩, by repeat (first | exact Drawn0.refl _ | apply Drawn0.step)⟩
                                  · rw [if_neg c20] at H
                                    have c20b0 : (((rd_T34 l0 x6_2).f0) == ((rd_T34 l0 a1).f0)) = false := beq_eq_false_iff_ne.mpr c20
                                    have c20b1 : (((rd_T34 l0 x6_2).f0) != ((rd_T34 l0 a1).f0)) = true := bne_iff_ne.mpr c20
                                    have H' := Aside0.mk H
                                    clear H
                                    have p249 : 0 ≤ (x6_2 : Int) := of_decide_eq_true (by first | (with_reducible assumption) | assumption)
                                    have q249 : x6_2 < (l0.length : Int) := of_decide_eq_true (by first | (with_reducible assumption) | assumption)
                                    obtain ⟨ad249, A249_2, c249_2, e249, hx249_0, hx249_1, hx249_2, hl249_2, hi249_2⟩ := at_T34 HR0.out x6_2 p249 q249
                                    obtain rfl : ad241 = ad249 := (by injection e249)
                                    have HR249_2 := Aside0.mk hi249_2
                                    have HC249_2 := Aside0.mk hl249_2
                                    clear hi249_2 hl249_2
                                    replace p249 := eq_true p249
                                    replace q249 := eq_true q249
                                    have p250 : 0 ≤ (a1 : Int) := of_decide_eq_true (by first | (with_reducible assumption) | assumption)
                                    have q250 : a1 < (l0.length : Int) := of_decide_eq_true (by first | (with_reducible assumption) | assumption)
                                    obtain ⟨ad250, A250_2, c250_2, e250, hx250_0, hx250_1, hx250_2, hl250_2, hi250_2⟩ := at_T34 HR0.out a1 p250 q250
                                    obtain rfl : ad241 = ad250 := (by injection e250)
                                    have HR250_2 := Aside0.mk hi250_2
                                    have HC250_2 := Aside0.mk hl250_2
                                    clear hi250_2 hl250_2
                                    replace p250 := eq_true p250
                                    replace q250 := eq_true q250
                                    go_wp2
                                    repeat (go_quiet (fail); try go_wp2)
                                    go_roundg k2
                                    case measure => have := HJ4.out; have := HK2.out; omega
                                    case rel => exact ⟨(wrap64 (x6_2 + 1)), (by first | rfl | (simp; done) | (simp [*]; done)), H', ⟨by have := HJ4.out; have := HK2.out; omega⟩, by repeat (first | exact Drawn0.refl _ | apply Drawn0.step)⟩
                                · rw [if_neg c19] at H
                                  exact absurd H (by simp)
                              · rw [if_neg c18] at H
                                exact absurd H (by simp)
                            · rw [if_neg c17] at H
                              exact absurd H (by simp)
                          · rw [if_neg c16] at H
                            exact absurd H (by simp)
                        · rw [if_neg c15] at H
                          have c15b0 : decide (x6_2 < a1) = false := decide_eq_false c15
                          clear c15
                          obtain rfl := Option.some.inj H
                          go_wp2
                          repeat (go_quiet (fail); try go_wp2)
                          go_ret
                          exact ⟨by first | rfl | (simp; done) | (simp [*]; done), by repeat (first | exact Drawn0.refl _ | apply Drawn0.step)⟩
                  · replace c14 := Bool.eq_false_iff.mpr c14
                    subst c14
                    have H1 : (some 3) = some r := by rw [if_neg (show ¬ (false = true) by decide)] at H; exact H
                    clear H
                    have H := H1
                    clear H1
                    obtain rfl := Option.some.inj H
                    have p246 : 0 ≤ (a1 : Int) := of_decide_eq_true (by first | (with_reducible assumption) | assumption)
                    have q246 : a1 < (l0.length : Int) := of_decide_eq_true (by first | (with_reducible assumption) | assumption)
                    obtain ⟨ad246, A246_2, c246_2, e246, hx246_0, hx246_1, hx246_2, hl246_2, hi246_2⟩ := at_T34 HR0.out a1 p246 q246
                    obtain rfl : ad241 = ad246 := (by injection e246)
                    have HR246_2 := Aside0.mk hi246_2
                    have HC246_2 := Aside0.mk hl246_2
                    clear hi246_2 hl246_2
                    replace p246 := eq_true p246
                    replace q246 := eq_true q246
                    have p247 : 0 ≤ (a1 : Int) := of_decide_eq_true (by first | (with_reducible assumption) | assumption)
                    have q247 : a1 < (l0.length : Int) := of_decide_eq_true (by first | (with_reducible assumption) | assumption)
                    obtain ⟨ad247, A247_2, c247_2, e247, hx247_0, hx247_1, hx247_2, hl247_2, hi247_2⟩ := at_T34 HR0.out a1 p247 q247
                    obtain rfl : ad241 = ad247 := (by injection e247)
                    have HR247_2 := Aside0.mk hi247_2
                    have HC247_2 := Aside0.mk hl247_2
                    clear hi247_2 hl247_2
                    replace p247 := eq_true p247
                    replace q247 := eq_true q247
                    have ea_ := Option.some.inj (hx246_2.symm.trans hx247_2)
                    injection ea_ with ea_ en_ ec_
                    subst ea_
                    subst ec_
                    clear en_
                    go_wp2_with (first | (go_at_call 137; (with_reducible refine (spec_l1All.calls kj4 _ _ ((rd_T34 l0 a1).f2) 0 9999 false _ ?side1 ?side2 A13.out).mono ?_); (case side1 => repeat (first | exact HR247_2.out | (with_reducible refine Kd.C_alloc ?_ _) | (with_reducible refine Kd.C_drewN ?_ _) | (with_reducible refine Kd.C_drew ?_))); (case side2 => exact HC247_2.out); rintro e w' ⟨rfl, ⟨nd, rfl⟩⟩; (try first | exact ⟨rfl, _, World.drewN_drewN _ _ _⟩ | exact ⟨rfl, _, Eq.trans (World.drewN_drewN _ _ _) (congrArg (World.drewN _) (Nat.add_assoc _ _ _))⟩)))
                    repeat (go_quiet (first | (go_at_call 137; (with_reducible refine (spec_l1All.calls kj4 _ _ ((rd_T34 l0 a1).f2) 0 9999 false _ ?side1 ?side2 A13.out).mono ?_); (case side1 => repeat (first | exact HR247_2.out | (with_reducible refine Kd.C_alloc ?_ _) | (with_reducible refine Kd.C_drewN ?_ _) | (with_reducible refine Kd.C_drew ?_))); (case side2 => exact HC247_2.out); rintro e w' ⟨rfl, ⟨nd, rfl⟩⟩; (try first | exact ⟨rfl, _, World.drewN_drewN _ _ _⟩ | exact ⟨rfl, _, Eq.trans (World.drewN_drewN _ _ _) (congrArg (World.drewN _) (Nat.add_assoc _ _ _))⟩))); try go_wp2_with (first | (go_at_call 137; (with_reducible refine (spec_l1All.calls kj4 _ _ ((rd_T34 l0 a1).f2) 0 9999 false _ ?side1 ?side2 A13.out).mono ?_); (case side1 => repeat (first | exact HR247_2.out | (with_reducible refine Kd.C_alloc ?_ _) | (with_reducible refine Kd.C_drewN ?_ _) | (with_reducible refine Kd.C_drew ?_))); (case side2 => exact HC247_2.out); rintro e w' ⟨rfl, ⟨nd, rfl⟩⟩; (try first | exact ⟨rfl, _, World.drewN_drewN _ _ _⟩ | exact ⟨rfl, _, Eq.trans (World.drewN_drewN _ _ _) (congrArg (World.drewN _) (Nat.add_assoc _ _ _))⟩))))
                    go_ret
                    exact ⟨by first | rfl | (simp; done) | (simp [*]; done), by repeat (first | exact Drawn0.refl _ | apply Drawn0.step)⟩
              · rw [if_neg c11] at H
                exact absurd H (by simp)
            · rw [if_neg c10] at H
              exact absurd H (by simp)
    · rw [if_neg c4] at H
      exact absurd H (by simp)
  · rw [if_neg c3] at H
    exact absurd H (by simp)

/-! ### spec_l1Amount: function 138 -/
def spec_l1Amount.f (a0 : Int) : Option (Bool) := (spec_l1In.f a0 0 1000000).bind fun t253 => (some t253)
set_option maxHeartbeats 8000000 in
set_option maxRecDepth 100000 in
theorem spec_l1Amount.calls (a0 : Int) (r : Bool) (w : World) (h : spec_l1Amount.f a0 = some r) :
    Calls Try.prog 138 #[.int .i64 a0] w fun e w' => e = .returned (.bool r) ∧ Drawn0 w w' := by
  have H : ((spec_l1In.f a0 0 1000000).bind fun t253 => (some t253)) = some r := h
  clear h
  replace H := Option.bind_eq_some_iff.mp H
  obtain ⟨t253, A20, H⟩ := H
  replace H : (some t253) = some r := H
  have A2 := Aside0.mk A20
  clear A20
  obtain rfl := Option.some.inj H
  go_enter Try.func138, Try.ntmps138
  go_wp2_with (first | ((with_reducible refine gate_callee (f := 81) rfl ?_); refine goesL_ (some 4) rfl rfl Try.func81 (by kernel_rfl) rfl #[.int .i64 a0, .int .i64 0, .int .i64 1000000] rfl (by (try simp only [List.map_toArray, List.map_cons, List.map_nil]); first | done | rfl | (simp only [List.length_drop, List.length_take]; rfl)) ?_; (with_reducible refine (spec_l1In.calls a0 0 1000000 t253 _ A2.out).mono ?_); rintro e w' ⟨rfl, ⟨nd, rfl⟩⟩; refine ⟨_, rfl, ?_⟩))
  go_ret
  exact ⟨by first | rfl | (simp; done) | (simp [*]; done), by repeat (first | exact Drawn0.refl _ | apply Drawn0.step)⟩

/-! ### spec_l2Op: function 156 -/
def spec_l2Op.f (a0 : Int) : Option (Bool) := (spec_l1In.f a0 1 9).bind fun t254 => (if t254 = true then (some true) else ((spec_l1In.f a0 100 1099).bind fun t255 => (some t255)))
set_option maxHeartbeats 8000000 in
set_option maxRecDepth 100000 in
theorem spec_l2Op.calls (a0 : Int) (r : Bool) (w : World) (h : spec_l2Op.f a0 = some r) :
    Calls Try.prog 156 #[.int .i64 a0] w fun e w' => e = .returned (.bool r) ∧ Drawn0 w w' := by
  have H : ((spec_l1In.f a0 1 9).bind fun t254 => (if t254 = true then (some true) else ((spec_l1In.f a0 100 1099).bind fun t255 => (some t255)))) = some r := h
  clear h
  replace H := Option.bind_eq_some_iff.mp H
  obtain ⟨t254, A20, H⟩ := H
  replace H : (if t254 = true then (some true) else ((spec_l1In.f a0 100 1099).bind fun t255 => (some t255))) = some r := H
  have A2 := Aside0.mk A20
  clear A20
  by_cases c3 : t254 = true
  · subst c3
    have H1 : (some true) = some r := by rw [if_pos rfl] at H; exact H
    clear H
    have H := H1
    clear H1
    obtain rfl := Option.some.inj H
    go_enter Try.func156, Try.ntmps156
    go_wp2_with (first | ((with_reducible refine gate_callee (f := 81) rfl ?_); refine goesL_ (some 4) rfl rfl Try.func81 (by kernel_rfl) rfl #[.int .i64 a0, .int .i64 1, .int .i64 9] rfl (by (try simp only [List.map_toArray, List.map_cons, List.map_nil]); first | done | rfl | (simp only [List.length_drop, List.length_take]; rfl)) ?_; (with_reducible refine (spec_l1In.calls a0 1 9 true _ A2.out).mono ?_); rintro e w' ⟨rfl, ⟨nd, rfl⟩⟩; refine ⟨_, rfl, ?_⟩))
    go_ret
    exact ⟨by first | rfl | (simp; done) | (simp [*]; done), by repeat (first | exact Drawn0.refl _ | apply Drawn0.step)⟩
  · replace c3 := Bool.eq_false_iff.mpr c3
    subst c3
    have H1 : ((spec_l1In.f a0 100 1099).bind fun t255 => (some t255)) = some r := by rw [if_neg (show ¬ (false = true) by decide)] at H; exact H
    clear H
    have H := H1
    clear H1
    replace H := Option.bind_eq_some_iff.mp H
    obtain ⟨t255, A40, H⟩ := H
    replace H : (some t255) = some r := H
    have A4 := Aside0.mk A40
    clear A40
    obtain rfl := Option.some.inj H
    go_enter Try.func156, Try.ntmps156
    go_wp2_with (first | ((with_reducible refine gate_callee (f := 81) rfl ?_); refine goesL_ (some 4) rfl rfl Try.func81 (by kernel_rfl) rfl #[.int .i64 a0, .int .i64 1, .int .i64 9] rfl (by (try simp only [List.map_toArray, List.map_cons, List.map_nil]); first | done | rfl | (simp only [List.length_drop, List.length_take]; rfl)) ?_; (with_reducible refine (spec_l1In.calls a0 1 9 false _ A2.out).mono ?_); rintro e w' ⟨rfl, ⟨nd, rfl⟩⟩; refine ⟨_, rfl, ?_⟩) | (go_at_call 81; (with_reducible refine (spec_l1In.calls a0 100 1099 t255 _ A4.out).mono ?_); rintro e w' ⟨rfl, ⟨nd, rfl⟩⟩))
    go_ret
    exact ⟨by first | rfl | (simp; done) | (simp [*]; done), by repeat (first | exact Drawn0.refl _ | apply Drawn0.step)⟩

/-! ### spec_l2Fault: function 139 -/
def spec_l2Fault.l0 : Nat → List Int → Int → Option (Int)
  | 0, _, _ => none
  | k + 1, x0, x3 => if x3 < (x0.length : Int) then (if 0 ≤ x3 then ((spec_l2Op.f (rd x0 x3)).bind fun t257 => (if t257 = true then (spec_l2Fault.l0 k x0 (wrap64 (x3 + 1))) else (some 1))) else (none)) else (some 0)
def spec_l2Fault.f (k : Nat) (l0 : List Int) : Option (Int) := if (l0.length : Int) > 12 then (some 2) else (spec_l2Fault.l0 k l0 0)
theorem spec_l2Fault.mono_l : ∀ k, (∀ y0 y1, LeO (spec_l2Fault.l0 k y0 y1) (spec_l2Fault.l0 (k + 1) y0 y1))
  | 0 => fun _ _ r h => by simp [spec_l2Fault.l0] at h
  | k + 1 => by
    have ih0 := spec_l2Fault.mono_l k
    · intro y0 y1
      unfold spec_l2Fault.l0
      repeat' first
      | (with_reducible exact ih0 _ _)
      | (with_reducible exact LeO.refl _)
      | (with_reducible exact LeO.none _)
      | (with_reducible refine LeO.ite ?_ ?_)
      | (with_reducible refine LeO.bind ?_ (fun _ => ?_))
      | exact ih0 _ _
      | exact LeO.none _
      | refine LeO.ite ?_ ?_
      | refine LeO.bind ?_ (fun _ => ?_)
theorem spec_l2Fault.mono : ∀ a0 k, LeO (spec_l2Fault.f k a0) (spec_l2Fault.f (k + 1) a0) := by
  intro a0 k
  have ih0 := spec_l2Fault.mono_l k
  unfold spec_l2Fault.f
  repeat' first
      | (with_reducible exact ih0 _ _)
      | (with_reducible exact LeO.refl _)
      | (with_reducible exact LeO.none _)
      | (with_reducible refine LeO.ite ?_ ?_)
      | (with_reducible refine LeO.bind ?_ (fun _ => ?_))
      | exact ih0 _ _
      | exact LeO.none _
      | refine LeO.ite ?_ ?_
      | refine LeO.bind ?_ (fun _ => ?_)
set_option maxHeartbeats 8000000 in
set_option maxRecDepth 100000 in
theorem spec_l2Fault.calls (k : Nat) (A0 : Option Addr) (c0 : Nat) (l0 : List Int) (r : Int) (w : World) (hr0 : Kd.C (Kd.int .i64) w A0 l0.length l0) (hc0 : l0.length ≤ c0) (h : spec_l2Fault.f k l0 = some r) :
    Calls Try.prog 139 #[.slice A0 l0.length c0] w fun e w' => e = .returned (.int .i64 r) ∧ Drawn0 w w' := by
  have HR0 := Aside0.mk hr0
  have HC0 := Aside0.mk hc0
  clear hr0 hc0
  have H : (if (l0.length : Int) > 12 then (some 2) else (spec_l2Fault.l0 k l0 0)) = some r := h
  clear h
  by_cases c2 : (l0.length : Int) > 12
  · rw [if_pos c2] at H
    have c2b0 : decide (12 < (l0.length : Int)) = true := decide_eq_true c2
    have c2b1 : decide (12 < l0.length) = true := decide_eq_true (by omega)
    clear c2
    obtain rfl := Option.some.inj H
    go_enter Try.func139, Try.ntmps139
    go_wp2
    go_ret
    exact ⟨by first | rfl | (simp; done) | (simp [*]; done), by repeat (first | exact Drawn0.refl _ | apply Drawn0.step)⟩
  · rw [if_neg c2] at H
    have c2b0 : decide (12 < (l0.length : Int)) = false := decide_eq_false c2
    have c2b1 : decide (12 < l0.length) = false := decide_eq_false (by omega)
    clear c2
    have H' := Aside0.mk H
    clear H
    go_enter Try.func139, Try.ntmps139
    go_wp2
    go_loopg [3] k (fun kq v3 w' => ∃ (x3_1 : Int), v3 = .int .i64 x3_1 ∧ Aside0 (spec_l2Fault.l0 kq l0 x3_1 = some r) ∧ Aside0 (kq ≤ k) ∧ Drawn0 w w')
    case atStart => exact ⟨(0), (by first | rfl | (simp; done) | (simp [*]; done)), H', ⟨Nat.le_refl _⟩, by repeat (first | exact Drawn0.refl _ | apply Drawn0.step)⟩
    case round =>
      clear H'
      try clear c1
      try clear c2
      try clear c2b0
      try clear c2b1
      try clear p2
      obtain ⟨x3_1, rfl, HA, HK1, ⟨m1, rfl⟩⟩ := hrel
      cases gk with
      | zero => exact absurd HA.out (by simp [spec_l2Fault.l0])
      | succ k1 =>
        have H := HA.out
        clear HA
        simp only [spec_l2Fault.l0] at H
        by_cases c3 : x3_1 < (l0.length : Int)
        · rw [if_pos c3] at H
          have c3b0 : decide (x3_1 < (l0.length : Int)) = true := decide_eq_true c3
          clear c3
          by_cases c4 : 0 ≤ x3_1
          · rw [if_pos c4] at H
            have c4b0 : decide (0 ≤ x3_1) = true := decide_eq_true c4
            clear c4
            replace H := Option.bind_eq_some_iff.mp H
            obtain ⟨t257, A50, H⟩ := H
            replace H : (if t257 = true then (spec_l2Fault.l0 k1 l0 (wrap64 (x3_1 + 1))) else (some 1)) = some r := H
            have A5 := Aside0.mk A50
            clear A50
            by_cases c6 : t257 = true
            · subst c6
              have H1 : (spec_l2Fault.l0 k1 l0 (wrap64 (x3_1 + 1))) = some r := by rw [if_pos rfl] at H; exact H
              clear H
              have H := H1
              clear H1
              have H' := Aside0.mk H
              clear H
              have p256 : 0 ≤ (x3_1 : Int) := of_decide_eq_true (by first | (with_reducible assumption) | assumption)
              have q256 : x3_1 < (l0.length : Int) := of_decide_eq_true (by first | (with_reducible assumption) | assumption)
              obtain ⟨ad256, e256, hx256_0⟩ := Kd.at_int HR0.out x3_1 p256 q256
              cases e256
              replace p256 := eq_true p256
              replace q256 := eq_true q256
              go_wp2_with (first | ((with_reducible refine gate_callee (f := 156) rfl ?_); refine goesL_ (some 17) rfl rfl Try.func156 (by kernel_rfl) rfl #[.int .i64 (rd l0 x3_1)] rfl (by (try simp only [List.map_toArray, List.map_cons, List.map_nil]); first | done | rfl | (simp only [List.length_drop, List.length_take]; rfl)) ?_; (with_reducible refine (spec_l2Op.calls (rd l0 x3_1) true _ A5.out).mono ?_); rintro e w' ⟨rfl, ⟨nd, rfl⟩⟩; refine ⟨_, rfl, ?_⟩))
              go_roundg k1
              case measure => have := HK1.out; omega
              case rel => exact ⟨(wrap64 (x3_1 + 1)), (by first | rfl | (simp; done) | (simp [*]; done)), H', ⟨by have := HK1.out; omega⟩, by repeat (first | exact Drawn0.refl _ | apply Drawn0.step)⟩
            · replace c6 := Bool.eq_false_iff.mpr c6
              subst c6
              have H1 : (some 1) = some r := by rw [if_neg (show ¬ (false = true) by decide)] at H; exact H
              clear H
              have H := H1
              clear H1
              obtain rfl := Option.some.inj H
              have p256 : 0 ≤ (x3_1 : Int) := of_decide_eq_true (by first | (with_reducible assumption) | assumption)
              have q256 : x3_1 < (l0.length : Int) := of_decide_eq_true (by first | (with_reducible assumption) | assumption)
              obtain ⟨ad256, e256, hx256_0⟩ := Kd.at_int HR0.out x3_1 p256 q256
              cases e256
              replace p256 := eq_true p256
              replace q256 := eq_true q256
              go_wp2_with (first | ((with_reducible refine gate_callee (f := 156) rfl ?_); refine goesL_ (some 17) rfl rfl Try.func156 (by kernel_rfl) rfl #[.int .i64 (rd l0 x3_1)] rfl (by (try simp only [List.map_toArray, List.map_cons, List.map_nil]); first | done | rfl | (simp only [List.length_drop, List.length_take]; rfl)) ?_; (with_reducible refine (spec_l2Op.calls (rd l0 x3_1) false _ A5.out).mono ?_); rintro e w' ⟨rfl, ⟨nd, rfl⟩⟩; refine ⟨_, rfl, ?_⟩))
              go_ret
              exact ⟨by first | rfl | (simp; done) | (simp [*]; done), by repeat (first | exact Drawn0.refl _ | apply Drawn0.step)⟩
          · rw [if_neg c4] at H
            exact absurd H (by simp)
        · rw [if_neg c3] at H
          have c3b0 : decide (x3_1 < (l0.length : Int)) = false := decide_eq_false c3
          clear c3
          obtain rfl := Option.some.inj H
          go_wp2
          go_ret
          exact ⟨by first | rfl | (simp; done) | (simp [*]; done), by repeat (first | exact Drawn0.refl _ | apply Drawn0.step)⟩

end Go.Proofs.Ythjlbpgiaehjnaa.QFnExactTxSum
