-- written by this session's program (wip/tools/myprint.py)
import Derived.Test.YtjgnjhbleiempaaQFnTwinsx0
import Derived.Test.YtjgnjhbleiempaaQFnTwinsx1
import Derived.Test.YtjgnjhbleiempaaQFnTwinsx3
import Derived.Test.YtjgnjhbleiempaaQFnTwinsx4
import Derived.Test.YtjgnjhbleiempaaQFnTwinsx5
namespace Go.Proofs.Ytjgnjhbleiempaa.QFnTwins
open Go.RowKit Go.Proofs.YtjgnjhbleiempaaW.PrintWords Go.Proofs.YtjgnjhbleiempaaW.PrintLast Go.Proofs.YtjgnjhbleiempaaW.PrintMore
attribute [local go_sem] max2_int min2_int max_two min_two max_three min_three max_four min_four   -- for this text's walks alone
set_option linter.unusedVariables false
set_option linter.unusedSimpArgs false

/-! ### laws_FnTwins: function 3 -/
mutual
def laws_FnTwins.j0 : Nat → List Int → Bool → Option (Bool)
  | 0, _, _ => none
  | k + 1, x3, x60 => if x60 = true then (none) else (if (x3.length : Int) = 0 then (laws_FnTwins.j1 k x3 true) else (if (x3.length : Int) > 4 then (laws_FnTwins.j1 k x3 true) else ((impl_RootOf.f k x3).bind fun bt285 => (laws_FnTwins.j1 k x3 (bt285.1 != 0)))))
def laws_FnTwins.j1 : Nat → List Int → Bool → Option (Bool)
  | 0, _, _ => none
  | k + 1, x3, x74 => if x74 = true then (some true) else ((some (([] : List Int) : List Int)).bind fun y287 => (if y287.length + x3.length < 17592186044416 then ((some (y287 ++ x3 : List Int)).bind fun y290 => (if y290.length + x3.length < 17592186044416 then ((some (y290 ++ x3 : List Int)).bind fun y293 => (if ((x3.length : Int) % 2) = 1 then (laws_FnTwins.j2 k x3 y293 (decide ((x3.length : Int) > 1))) else (laws_FnTwins.j2 k x3 y293 false))) else (none))) else (none)))
def laws_FnTwins.j2 : Nat → List Int → List Int → Bool → Option (Bool)
  | 0, _, _, _ => none
  | k + 1, x3, x8, x88 => if x88 = true then ((some (([] : List Int) : List Int)).bind fun y296 => (if y296.length + x3.length < 17592186044416 then ((some (y296 ++ x3 : List Int)).bind fun y299 => (if 0 ≤ (wrap64 ((x3.length : Int) - 1)) then (if (wrap64 ((x3.length : Int) - 1)) < (x3.length : Int) then ((some (([rd x3 (wrap64 ((x3.length : Int) - 1))] : List Int) : List Int)).bind fun y303 => (if y299.length + y303.length < 17592186044416 then ((some (y299 ++ y303 : List Int)).bind fun y306 => ((impl_HasTwin.f k y306).bind fun t309 => (if t309 = true then ((impl_RootOf.f k y306).bind fun bt310 => ((impl_RootOf.f k x3).bind fun bt312 => (some (bt310.2 == bt312.2)))) else (none)))) else (none))) else (none)) else (none))) else (none))) else (if (x3.length : Int) = 3 then (some true) else ((impl_HasTwin.f k x8).bind fun t314 => (some t314)))
end
def laws_FnTwins.f (k : Nat) (l0 : List Int) : Option (Bool) := (laws_lwBig.f l0).bind fun t265 => (if t265 = true then (some true) else ((spec_DrawHasTwin.f k l0).bind fun t266 => ((impl_HasTwin.f k t266).bind fun t269 => ((spec_DrawJoinSums.f l0).bind fun bt270 => ((impl_JoinSums.f k bt270.1 bt270.2).bind fun bt272 => ((spec_HasTwin.f k t266).bind fun t275 => (if (t269 != t275) = true then (none) else ((spec_JoinSums.f k bt270.1 bt270.2).bind fun bt276 => (if bt272.1 = bt276.1 then ((spec_JoinSums.f k bt270.1 bt270.2).bind fun bt278 => (if bt272.2 = bt278.2 then (if bt272.1 = 0 then ((impl_RootOf.f k (([bt270.1, bt270.2] : List Int))).bind fun bt283 => (laws_FnTwins.j0 k t266 (bt283.2 != bt272.2))) else (laws_FnTwins.j0 k t266 false)) else (none))) else (none))))))))))
theorem laws_FnTwins.mono_l : ∀ k, (∀ y0 y1, LeO (laws_FnTwins.j0 k y0 y1) (laws_FnTwins.j0 (k + 1) y0 y1)) ∧ (∀ y0 y1, LeO (laws_FnTwins.j1 k y0 y1) (laws_FnTwins.j1 (k + 1) y0 y1)) ∧ (∀ y0 y1 y2, LeO (laws_FnTwins.j2 k y0 y1 y2) (laws_FnTwins.j2 (k + 1) y0 y1 y2))
  | 0 => ⟨fun _ _ r h => by simp [laws_FnTwins.j0] at h, fun _ _ r h => by simp [laws_FnTwins.j1] at h, fun _ _ _ r h => by simp [laws_FnTwins.j2] at h⟩
  | k + 1 => by
    obtain ⟨ih0, ih1, ih2⟩ := laws_FnTwins.mono_l k
    refine ⟨?_, ?_, ?_⟩
    · intro y0 y1
      unfold laws_FnTwins.j0
      repeat' first
      | (with_reducible exact ih0 _ _)
      | (with_reducible exact ih1 _ _)
      | (with_reducible exact ih2 _ _ _)
      | (with_reducible exact impl_HasTwin.mono _ _)
      | (with_reducible exact impl_JoinSums.mono _ _ _)
      | (with_reducible exact impl_RootOf.mono _ _)
      | (with_reducible exact spec_DrawHasTwin.mono _ _)
      | (with_reducible exact spec_HasTwin.mono _ _)
      | (with_reducible exact spec_JoinSums.mono _ _ _)
      | (with_reducible exact LeO.refl _)
      | (with_reducible exact LeO.none _)
      | (with_reducible refine LeO.ite ?_ ?_)
      | (with_reducible refine LeO.bind ?_ (fun _ => ?_))
      | exact ih0 _ _
      | exact ih1 _ _
      | exact ih2 _ _ _
      | exact impl_HasTwin.mono _ _
      | exact impl_JoinSums.mono _ _ _
      | exact impl_RootOf.mono _ _
      | exact spec_DrawHasTwin.mono _ _
      | exact spec_HasTwin.mono _ _
      | exact spec_JoinSums.mono _ _ _
      | exact LeO.none _
      | refine LeO.ite ?_ ?_
      | refine LeO.bind ?_ (fun _ => ?_)
    · intro y0 y1
      unfold laws_FnTwins.j1
      repeat' first
      | (with_reducible exact ih0 _ _)
      | (with_reducible exact ih1 _ _)
      | (with_reducible exact ih2 _ _ _)
      | (with_reducible exact impl_HasTwin.mono _ _)
      | (with_reducible exact impl_JoinSums.mono _ _ _)
      | (with_reducible exact impl_RootOf.mono _ _)
      | (with_reducible exact spec_DrawHasTwin.mono _ _)
      | (with_reducible exact spec_HasTwin.mono _ _)
      | (with_reducible exact spec_JoinSums.mono _ _ _)
      | (with_reducible exact LeO.refl _)
      | (with_reducible exact LeO.none _)
      | (with_reducible refine LeO.ite ?_ ?_)
      | (with_reducible refine LeO.bind ?_ (fun _ => ?_))
      | exact ih0 _ _
      | exact ih1 _ _
      | exact ih2 _ _ _
      | exact impl_HasTwin.mono _ _
      | exact impl_JoinSums.mono _ _ _
      | exact impl_RootOf.mono _ _
      | exact spec_DrawHasTwin.mono _ _
      | exact spec_HasTwin.mono _ _
      | exact spec_JoinSums.mono _ _ _
      | exact LeO.none _
      | refine LeO.ite ?_ ?_
      | refine LeO.bind ?_ (fun _ => ?_)
    · intro y0 y1 y2
      unfold laws_FnTwins.j2
      repeat' first
      | (with_reducible exact ih0 _ _)
      | (with_reducible exact ih1 _ _)
      | (with_reducible exact ih2 _ _ _)
      | (with_reducible exact impl_HasTwin.mono _ _)
      | (with_reducible exact impl_JoinSums.mono _ _ _)
      | (with_reducible exact impl_RootOf.mono _ _)
      | (with_reducible exact spec_DrawHasTwin.mono _ _)
      | (with_reducible exact spec_HasTwin.mono _ _)
      | (with_reducible exact spec_JoinSums.mono _ _ _)
      | (with_reducible exact LeO.refl _)
      | (with_reducible exact LeO.none _)
      | (with_reducible refine LeO.ite ?_ ?_)
      | (with_reducible refine LeO.bind ?_ (fun _ => ?_))
      | exact ih0 _ _
      | exact ih1 _ _
      | exact ih2 _ _ _
      | exact impl_HasTwin.mono _ _
      | exact impl_JoinSums.mono _ _ _
      | exact impl_RootOf.mono _ _
      | exact spec_DrawHasTwin.mono _ _
      | exact spec_HasTwin.mono _ _
      | exact spec_JoinSums.mono _ _ _
      | exact LeO.none _
      | refine LeO.ite ?_ ?_
      | refine LeO.bind ?_ (fun _ => ?_)
theorem laws_FnTwins.mono : ∀ a0 k, LeO (laws_FnTwins.f k a0) (laws_FnTwins.f (k + 1) a0) := by
  intro a0 k
  obtain ⟨ih0, ih1, ih2⟩ := laws_FnTwins.mono_l k
  unfold laws_FnTwins.f
  repeat' first
      | (with_reducible exact ih0 _ _)
      | (with_reducible exact ih1 _ _)
      | (with_reducible exact ih2 _ _ _)
      | (with_reducible exact impl_HasTwin.mono _ _)
      | (with_reducible exact impl_JoinSums.mono _ _ _)
      | (with_reducible exact impl_RootOf.mono _ _)
      | (with_reducible exact spec_DrawHasTwin.mono _ _)
      | (with_reducible exact spec_HasTwin.mono _ _)
      | (with_reducible exact spec_JoinSums.mono _ _ _)
      | (with_reducible exact LeO.refl _)
      | (with_reducible exact LeO.none _)
      | (with_reducible refine LeO.ite ?_ ?_)
      | (with_reducible refine LeO.bind ?_ (fun _ => ?_))
      | exact ih0 _ _
      | exact ih1 _ _
      | exact ih2 _ _ _
      | exact impl_HasTwin.mono _ _
      | exact impl_JoinSums.mono _ _ _
      | exact impl_RootOf.mono _ _
      | exact spec_DrawHasTwin.mono _ _
      | exact spec_HasTwin.mono _ _
      | exact spec_JoinSums.mono _ _ _
      | exact LeO.none _
      | refine LeO.ite ?_ ?_
      | refine LeO.bind ?_ (fun _ => ?_)
def laws_FnTwins.T7 : Bool × List (List Nat × List Nat) := (true, [([], []), ([], []), ([1], [1]), ([0, 2], [0, 2]), ([3, 2], [3]), ([4], [4]), ([5, 4], [4, 5]), ([4], [4]), ([4], [4]), ([7, 8, 4, 4], [4, 7, 8]), ([9, 4], [4, 9]), ([6, 10, 4], [4, 6, 10]), ([4, 11], [4, 11]), ([12, 9], [12]), ([13], [13]), ([14, 13], [13, 14]), ([13], [13]), ([13], [13]), ([16, 17, 13, 13], [13, 16, 17]), ([18, 13], [13, 18]), ([15, 19, 13], [13, 15, 19]), ([13, 20], [13, 20]), ([21, 18], [21]), ([22], [22]), ([23, 22], [22, 23]), ([24, 22], [22, 24]), ([25, 22, 22], [22, 25]), ([26], [26]), ([26], [26]), ([27, 28, 26], [26, 27, 28]), ([29, 26, 26], [26, 29]), ([30, 26], [26, 30]), ([26], [26]), ([32, 26], [26, 32]), ([31, 33, 26], [26, 31, 33]), ([26, 34, 22], [22, 26, 34]), ([22, 35], [22, 35])])
def laws_FnTwins.B7 : List Nat := [0, 0, 2, 7, 15, 31, 63, 31, 31, 415, 927, 2047, 4095, 8191, 16383, 32767, 16383, 16383, 212991, 475135, 1048575, 2097151, 4194303, 8388607, 16777215, 33554431, 67108863, 134217727, 134217727, 536870911, 1073741823, 2147483647, 134217727, 4429185023, 17179869183, 34359738367, 68719476735]
theorem laws_FnTwins.tab7 : rtab .any (opsOf Try.f3 7) = laws_FnTwins.T7 := by kernel_rfl
theorem laws_FnTwins.bits7 : waitsOk laws_FnTwins.T7.2 laws_FnTwins.B7 = true := by kernel_rfl
def laws_FnTwins.T13 : Bool × List (List Nat × List Nat) := (true, [([], []), ([], []), ([0, 1], [0, 1]), ([], []), ([], []), ([4], [4]), ([5], [5]), ([3, 6], [3, 6]), ([7], [7]), ([8], [8]), ([2, 9, 2], [2, 9]), ([10, 10, 0, 1, 2, 3, 4, 5, 6, 7, 8, 9, 10], [10])])
def laws_FnTwins.B13 : List Nat := [0, 0, 3, 0, 0, 16, 48, 120, 248, 504, 1023, 2047]
theorem laws_FnTwins.tab13 : rtab .any (opsOf Try.f3 13) = laws_FnTwins.T13 := by kernel_rfl
theorem laws_FnTwins.bits13 : waitsOk laws_FnTwins.T13.2 laws_FnTwins.B13 = true := by kernel_rfl
set_option maxHeartbeats 8000000 in
set_option maxRecDepth 100000 in
theorem laws_FnTwins.calls (k : Nat) (A0 : Option Addr) (c0 : Nat) (l0 : List Int) (r : Bool) (w : World) (hr0 : Kd.C (Kd.int .u8) w A0 l0.length l0) (hc0 : l0.length ≤ c0) (h : laws_FnTwins.f k l0 = some r) :
    Calls Try.prog 3 #[.slice A0 l0.length c0] w fun e w' => e = .returned (.bool r) ∧ Below w.heap.size w w' := by
  have hfd30_0 : ∀ (c0 c1 : Value) (w : World), (Instr.field 30 (.agg #[c0, c1]) 0).run Try.prog w = .ok c0 w := by intro c0 c1 w; kernel_rfl
  have hfd30_1 : ∀ (c0 c1 : Value) (w : World), (Instr.field 30 (.agg #[c0, c1]) 1).run Try.prog w = .ok c1 w := by intro c0 c1 w; kernel_rfl
  have hu30 := Try.underlying30
  have HR0 := Aside0.mk hr0
  have HC0 := Aside0.mk hc0
  clear hr0 hc0
  have HB := Aside0.mk (Below.refl w.heap.size w)
  have H : ((laws_lwBig.f l0).bind fun t265 => (if t265 = true then (some true) else ((spec_DrawHasTwin.f k l0).bind fun t266 => ((impl_HasTwin.f k t266).bind fun t269 => ((spec_DrawJoinSums.f l0).bind fun bt270 => ((impl_JoinSums.f k bt270.1 bt270.2).bind fun bt272 => ((spec_HasTwin.f k t266).bind fun t275 => (if (t269 != t275) = true then (none) else ((spec_JoinSums.f k bt270.1 bt270.2).bind fun bt276 => (if bt272.1 = bt276.1 then ((spec_JoinSums.f k bt270.1 bt270.2).bind fun bt278 => (if bt272.2 = bt278.2 then (if bt272.1 = 0 then ((impl_RootOf.f k (([bt270.1, bt270.2] : List Int))).bind fun bt283 => (laws_FnTwins.j0 k t266 (bt283.2 != bt272.2))) else (laws_FnTwins.j0 k t266 false)) else (none))) else (none))))))))))) = some r := h
  clear h
  replace H := Option.bind_eq_some_iff.mp H
  obtain ⟨t265, A20, H⟩ := H
  replace H : (if t265 = true then (some true) else ((spec_DrawHasTwin.f k l0).bind fun t266 => ((impl_HasTwin.f k t266).bind fun t269 => ((spec_DrawJoinSums.f l0).bind fun bt270 => ((impl_JoinSums.f k bt270.1 bt270.2).bind fun bt272 => ((spec_HasTwin.f k t266).bind fun t275 => (if (t269 != t275) = true then (none) else ((spec_JoinSums.f k bt270.1 bt270.2).bind fun bt276 => (if bt272.1 = bt276.1 then ((spec_JoinSums.f k bt270.1 bt270.2).bind fun bt278 => (if bt272.2 = bt278.2 then (if bt272.1 = 0 then ((impl_RootOf.f k (([bt270.1, bt270.2] : List Int))).bind fun bt283 => (laws_FnTwins.j0 k t266 (bt283.2 != bt272.2))) else (laws_FnTwins.j0 k t266 false)) else (none))) else (none)))))))))) = some r := H
  have A2 := Aside0.mk A20
  clear A20
  by_cases c3 : t265 = true
  · subst c3
    have H1 : (some true) = some r := by rw [if_pos rfl] at H; exact H
    clear H
    have H := H1
    clear H1
    obtain rfl := Option.some.inj H
    go_enter Try.func3, Try.ntmps3
    go_wp2_with (first | ((with_reducible refine gate_callee (f := 13) rfl ?_); refine goesL_ (some 11) rfl rfl Try.func13 (by kernel_rfl) rfl #[.slice A0 l0.length c0] rfl (by (try simp only [List.map_toArray, List.map_cons, List.map_nil]); first | done | rfl | (simp only [List.length_drop, List.length_take]; rfl)) ?_; (with_reducible refine (laws_lwBig.calls _ _ l0 true _ ?side1 ?side2 A2.out).mono ?_); (case side1 => repeat (first | exact HR0.out | (with_reducible refine Kd.C_alloc ?_ _) | (with_reducible refine Kd.C_drewN ?_ _) | (with_reducible refine Kd.C_drew ?_))); (case side2 => exact HC0.out); rintro e w' ⟨rfl, ⟨nd, rfl⟩⟩; refine ⟨_, rfl, ?_⟩))
    go_ret
    exact ⟨by first | rfl | (simp [errW_none, errW_some] <;> rfl) | (simp [*, errW_none, errW_some] <;> rfl), by repeat (first | (with_reducible first | exact HB.out | apply below_alloc | apply pw_below_drewN | apply below_drew1) | exact HB.out)⟩
  · replace c3 := Bool.eq_false_iff.mpr c3
    subst c3
    have H1 : ((spec_DrawHasTwin.f k l0).bind fun t266 => ((impl_HasTwin.f k t266).bind fun t269 => ((spec_DrawJoinSums.f l0).bind fun bt270 => ((impl_JoinSums.f k bt270.1 bt270.2).bind fun bt272 => ((spec_HasTwin.f k t266).bind fun t275 => (if (t269 != t275) = true then (none) else ((spec_JoinSums.f k bt270.1 bt270.2).bind fun bt276 => (if bt272.1 = bt276.1 then ((spec_JoinSums.f k bt270.1 bt270.2).bind fun bt278 => (if bt272.2 = bt278.2 then (if bt272.1 = 0 then ((impl_RootOf.f k (([bt270.1, bt270.2] : List Int))).bind fun bt283 => (laws_FnTwins.j0 k t266 (bt283.2 != bt272.2))) else (laws_FnTwins.j0 k t266 false)) else (none))) else (none))))))))) = some r := by rw [if_neg (show ¬ (false = true) by decide)] at H; exact H
    clear H
    have H := H1
    clear H1
    replace H := Option.bind_eq_some_iff.mp H
    obtain ⟨t266, A40, H⟩ := H
    replace H : ((impl_HasTwin.f k t266).bind fun t269 => ((spec_DrawJoinSums.f l0).bind fun bt270 => ((impl_JoinSums.f k bt270.1 bt270.2).bind fun bt272 => ((spec_HasTwin.f k t266).bind fun t275 => (if (t269 != t275) = true then (none) else ((spec_JoinSums.f k bt270.1 bt270.2).bind fun bt276 => (if bt272.1 = bt276.1 then ((spec_JoinSums.f k bt270.1 bt270.2).bind fun bt278 => (if bt272.2 = bt278.2 then (if bt272.1 = 0 then ((impl_RootOf.f k (([bt270.1, bt270.2] : List Int))).bind fun bt283 => (laws_FnTwins.j0 k t266 (bt283.2 != bt272.2))) else (laws_FnTwins.j0 k t266 false)) else (none))) else (none)))))))) = some r := H
    have A4 := Aside0.mk A40
    clear A40
    replace H := Option.bind_eq_some_iff.mp H
    obtain ⟨t269, A50, H⟩ := H
    replace H : ((spec_DrawJoinSums.f l0).bind fun bt270 => ((impl_JoinSums.f k bt270.1 bt270.2).bind fun bt272 => ((spec_HasTwin.f k t266).bind fun t275 => (if (t269 != t275) = true then (none) else ((spec_JoinSums.f k bt270.1 bt270.2).bind fun bt276 => (if bt272.1 = bt276.1 then ((spec_JoinSums.f k bt270.1 bt270.2).bind fun bt278 => (if bt272.2 = bt278.2 then (if bt272.1 = 0 then ((impl_RootOf.f k (([bt270.1, bt270.2] : List Int))).bind fun bt283 => (laws_FnTwins.j0 k t266 (bt283.2 != bt272.2))) else (laws_FnTwins.j0 k t266 false)) else (none))) else (none))))))) = some r := H
    have A5 := Aside0.mk A50
    clear A50
    replace H := Option.bind_eq_some_iff.mp H
    obtain ⟨⟨t270, t271⟩, A60, H⟩ := H
    replace H : ((impl_JoinSums.f k t270 t271).bind fun bt272 => ((spec_HasTwin.f k t266).bind fun t275 => (if (t269 != t275) = true then (none) else ((spec_JoinSums.f k t270 t271).bind fun bt276 => (if bt272.1 = bt276.1 then ((spec_JoinSums.f k t270 t271).bind fun bt278 => (if bt272.2 = bt278.2 then (if bt272.1 = 0 then ((impl_RootOf.f k (([t270, t271] : List Int))).bind fun bt283 => (laws_FnTwins.j0 k t266 (bt283.2 != bt272.2))) else (laws_FnTwins.j0 k t266 false)) else (none))) else (none)))))) = some r := H
    have A6 := Aside0.mk A60
    clear A60
    replace H := Option.bind_eq_some_iff.mp H
    obtain ⟨⟨t272, t273⟩, A70, H⟩ := H
    replace H : ((spec_HasTwin.f k t266).bind fun t275 => (if (t269 != t275) = true then (none) else ((spec_JoinSums.f k t270 t271).bind fun bt276 => (if t272 = bt276.1 then ((spec_JoinSums.f k t270 t271).bind fun bt278 => (if t273 = bt278.2 then (if t272 = 0 then ((impl_RootOf.f k (([t270, t271] : List Int))).bind fun bt283 => (laws_FnTwins.j0 k t266 (bt283.2 != t273))) else (laws_FnTwins.j0 k t266 false)) else (none))) else (none))))) = some r := H
    have A7 := Aside0.mk A70
    clear A70
    have HC8 := Aside0.mk H
    clear H
    go_enter Try.func3, Try.ntmps3
    go_upto_region 7 with (first | ((with_reducible refine gate_callee (f := 13) rfl ?_); refine goesL_ (some 11) rfl rfl Try.func13 (by kernel_rfl) rfl #[.slice A0 l0.length c0] rfl (by (try simp only [List.map_toArray, List.map_cons, List.map_nil]); first | done | rfl | (simp only [List.length_drop, List.length_take]; rfl)) ?_; (with_reducible refine (laws_lwBig.calls _ _ l0 false _ ?side1 ?side2 A2.out).mono ?_); (case side1 => repeat (first | exact HR0.out | (with_reducible refine Kd.C_alloc ?_ _) | (with_reducible refine Kd.C_drewN ?_ _) | (with_reducible refine Kd.C_drew ?_))); (case side2 => exact HC0.out); rintro e w' ⟨rfl, ⟨nd, rfl⟩⟩; refine ⟨_, rfl, ?_⟩) | ((with_reducible refine gate_callee (f := 14) rfl ?_); refine goesL_ (some 13) rfl rfl Try.func14 (by kernel_rfl) rfl #[.slice A0 l0.length c0] rfl (by (try simp only [List.map_toArray, List.map_cons, List.map_nil]); first | done | rfl | (simp only [List.length_drop, List.length_take]; rfl)) ?_; (with_reducible refine (spec_DrawHasTwin.calls k _ _ l0 t266 _ ?side1 ?side2 A4.out).mono ?_); (case side1 => repeat (first | exact HR0.out | (with_reducible refine Kd.C_alloc ?_ _) | (with_reducible refine Kd.C_drewN ?_ _) | (with_reducible refine Kd.C_drew ?_))); (case side2 => exact HC0.out); rintro e w9 ⟨v267, rfl, ho0, hb⟩; refine ⟨_, rfl, ?_⟩; have n0_ := Aside0.mk (Kd.R_lower ho0 (below_size (by repeat (first | (with_reducible first | exact HB.out | apply below_alloc | apply pw_below_drewN | apply below_drew1) | exact HB.out)))); have n1_ := Aside0.mk (below_step (by repeat (first | (with_reducible first | exact HB.out | apply below_alloc | apply pw_below_drewN | apply below_drew1) | exact HB.out)) hb); clear HB; have HO268 := n0_; have HB := n1_; clear n0_ n1_; (try clear hb); (try clear hb2); (try clear hk); (try clear hi); (try clear ho0); obtain ⟨Ao10, co10, eo10⟩ := Kd.R_slice HO268.out; subst eo10) | ((with_reducible refine gate_callee (f := 15) rfl ?_); refine goesL_ (some 15) rfl rfl Try.func15 (by kernel_rfl) rfl #[.slice Ao10 t266.length co10] rfl (by (try simp only [List.map_toArray, List.map_cons, List.map_nil]); first | done | rfl | (simp only [List.length_drop, List.length_take]; rfl)) ?_; (with_reducible refine (impl_HasTwin.calls k (fun k_ => some k_ = (.slice Ao10 t266.length co10 : Value).ownBlock) _ _ t266 t269 _ ?side1 A5.out).mono ?_); (case side1 => exact Kd.R_V (Kd.R_tight rfl (HO268.out))); rintro e w11 ⟨rfl, hb⟩; refine ⟨_, rfl, ?_⟩; have n0_ := Aside0.mk (Kd.R_below (by (with_reducible repeat (first | apply Kd.R_alloc | apply Kd.R_drewN | apply Kd.R_drew)); exact HO268.out) hb); have n1_ := Aside0.mk (below_step (by repeat (first | (with_reducible first | exact HB.out | apply below_alloc | apply pw_below_drewN | apply below_drew1) | exact HB.out)) hb); clear HO268; clear HB; have HO268 := n0_; have HB := n1_; clear n0_ n1_; (try clear hb); (try clear hb2); (try clear hk); (try clear hi)) | ((with_reducible refine gate_callee (f := 16) rfl ?_); refine goesL_ (some 18) rfl rfl Try.func16 (by kernel_rfl) rfl #[.slice A0 l0.length c0] rfl (by (try simp only [List.map_toArray, List.map_cons, List.map_nil]); first | done | rfl | (simp only [List.length_drop, List.length_take]; rfl)) ?_; (with_reducible refine (spec_DrawJoinSums.calls _ _ l0 t270 t271 _ ?side1 ?side2 A6.out).mono ?_); (case side1 => repeat (first | exact (Kd.C_below HR0.out HB.out) | (with_reducible refine Kd.C_alloc ?_ _) | (with_reducible refine Kd.C_drewN ?_ _) | (with_reducible refine Kd.C_drew ?_))); (case side2 => exact HC0.out); rintro e w12 ⟨rfl, hb⟩; refine ⟨_, rfl, ?_⟩; have n0_ := Aside0.mk (Kd.R_below (by (with_reducible repeat (first | apply Kd.R_alloc | apply Kd.R_drewN | apply Kd.R_drew)); exact HO268.out) hb); have n1_ := Aside0.mk (below_step (by repeat (first | (with_reducible first | exact HB.out | apply below_alloc | apply pw_below_drewN | apply below_drew1) | exact HB.out)) hb); clear HO268; clear HB; have HO268 := n0_; have HB := n1_; clear n0_ n1_; (try clear hb); (try clear hb2); (try clear hk); (try clear hi)) | ((with_reducible refine gate_callee (f := 17) rfl ?_); refine goesL_ (some 23) rfl rfl Try.func17 (by kernel_rfl) rfl #[.int .i64 t270, .int .i64 t271] rfl (by (try simp only [List.map_toArray, List.map_cons, List.map_nil]); first | done | rfl | (simp only [List.length_drop, List.length_take]; rfl)) ?_; (with_reducible refine (impl_JoinSums.calls k t270 t271 t272 t273 _ A7.out).mono ?_); rintro e w13 ⟨rfl, hb⟩; refine ⟨_, rfl, ?_⟩; have n0_ := Aside0.mk (Kd.R_below (by (with_reducible repeat (first | apply Kd.R_alloc | apply Kd.R_drewN | apply Kd.R_drew)); exact HO268.out) hb); have n1_ := Aside0.mk (below_step (by repeat (first | (with_reducible first | exact HB.out | apply below_alloc | apply pw_below_drewN | apply below_drew1) | exact HB.out)) hb); clear HO268; clear HB; have HO268 := n0_; have HB := n1_; clear n0_ n1_; (try clear hb); (try clear hb2); (try clear hk); (try clear hi)) | ((with_reducible refine gate_dst (N := 7) rfl ?_); (try (refine gate_guard (by rfl) ?_; dsimp only)); refine box_event ?hg (N := 7) ?hd (cs := #[.int .i64 0, .int .i64 0]) (t := 30) ?hr ?_; (case hd => rfl); (case hg => rfl); (case hr => first | (go_simp; done) | (go_simp; rfl)); intro gb274 hg w14 hbox hb; have n0_ := Aside0.mk (Kd.R_below (by (with_reducible repeat (first | apply Kd.R_alloc | apply Kd.R_drewN | apply Kd.R_drew)); exact HO268.out) hb); have n1_ := Aside0.mk (below_step (by repeat (first | (with_reducible first | exact HB.out | apply below_alloc | apply pw_below_drewN | apply below_drew1) | exact HB.out)) hb); have n2_ := Aside0.mk (hbox); have n3_ := Aside0.mk ((by rw [hg]; exact (below_size (by repeat (first | (with_reducible first | exact HB.out | apply below_alloc | apply pw_below_drewN | apply below_drew1) | exact HB.out))) : w.heap.size ≤ gb274)); have n4_ := Aside0.mk ((by rw [hg]; exact (below_size (by repeat (first | (with_reducible first | exact HB.out | apply below_alloc | apply pw_below_drewN | apply below_drew1) | exact HB.out))) : w.heap.size ≤ gb274)); clear HO268; clear HB; have HO268 := n0_; have HB := n1_; have BK274 := n2_; have GW274 := n3_; have GE274 := n4_; clear n0_ n1_ n2_ n3_ n4_; clear hb hbox hg; have hcz15_0 : w14.cell? ⟨gb274, 0, none⟩ = some (.int .i64 0) := (blk_cell BK274.out 0).trans rfl; have hcz15_1 : w14.cell? ⟨gb274, 1, none⟩ = some (.int .i64 0) := (blk_cell BK274.out 1).trans rfl; have hfz15_0 := blk_frozen BK274.out 0; have hfz15_1 := blk_frozen BK274.out 1))
    (try simp only [Act.put, List.setIfInBounds_toArray, List.set_cons_zero, List.set_cons_succ])
    go_cut [60] (fun v60 wc => ∃ (kq : Nat) (x60_7 : Bool), v60 = .bool x60_7 ∧ Aside0 (laws_FnTwins.j0 kq t266 x60_7 = some r) ∧ Aside0 (kq ≤ k) ∧ Aside0 (Kd.R (Kd.int .i64) 2 wc w.heap.size (fun _ => True) (.slice Ao10 t266.length co10) t266) ∧ Aside0 (wc.heap[gb274]? = some (.cells #[.int .i64 t272, .int .i64 t273] 30 (0, 0))) ∧ Aside0 (Below w.heap.size w wc))
    case first =>
      have H := HC8.out
      clear HC8
      replace H := Option.bind_eq_some_iff.mp H
      obtain ⟨t275, A160, H⟩ := H
      replace H : (if (t269 != t275) = true then (none) else ((spec_JoinSums.f k t270 t271).bind fun bt276 => (if t272 = bt276.1 then ((spec_JoinSums.f k t270 t271).bind fun bt278 => (if t273 = bt278.2 then (if t272 = 0 then ((impl_RootOf.f k (([t270, t271] : List Int))).bind fun bt283 => (laws_FnTwins.j0 k t266 (bt283.2 != t273))) else (laws_FnTwins.j0 k t266 false)) else (none))) else (none)))) = some r := H
      have A16 := Aside0.mk A160
      clear A160
      by_cases c17 : (t269 != t275) = true
      · rw [if_pos c17] at H
        have c17b0 : (t269 != t275) = true := c17
        (try (have c17b1 : decide (t269 = t275) = false := by simpa using c17))
        (try (have c17b2 : (t269 == t275) = false := by simpa using c17))
        (try (have c17b3 : ¬ (t269 = t275) := by simpa using c17))
        clear c17
        (first | rw [c17b0] | (simp only [i64_w, i32_w]; rw [c17b0]) | skip)
        exact absurd H (by simp)
      · rw [if_neg c17] at H
        have c17b0 : (t269 != t275) = false := by simpa using c17
        (try (have c17b1 : decide (t269 = t275) = true := by simpa using c17))
        (try (have c17b2 : (t269 == t275) = true := by simpa using c17))
        clear c17
        (first | rw [c17b0] | (simp only [i64_w, i32_w]; rw [c17b0]) | skip)
        replace H := Option.bind_eq_some_iff.mp H
        obtain ⟨⟨t276, t277⟩, A180, H⟩ := H
        replace H : (if t272 = t276 then ((spec_JoinSums.f k t270 t271).bind fun bt278 => (if t273 = bt278.2 then (if t272 = 0 then ((impl_RootOf.f k (([t270, t271] : List Int))).bind fun bt283 => (laws_FnTwins.j0 k t266 (bt283.2 != t273))) else (laws_FnTwins.j0 k t266 false)) else (none))) else (none)) = some r := H
        have A18 := Aside0.mk A180
        clear A180
        by_cases c19 : t272 = t276
        · rw [if_pos c19] at H
          have c19b0 : (t272 == t276) = true := beq_iff_eq.mpr c19
          have c19b1 : (t272 != t276) = false := bne_eq_false_iff_eq.mpr c19
          clear c19
          replace H := Option.bind_eq_some_iff.mp H
          obtain ⟨⟨t278, t279⟩, A200, H⟩ := H
          replace H : (if t273 = t279 then (if t272 = 0 then ((impl_RootOf.f k (([t270, t271] : List Int))).bind fun bt283 => (laws_FnTwins.j0 k t266 (bt283.2 != t273))) else (laws_FnTwins.j0 k t266 false)) else (none)) = some r := H
          have A20 := Aside0.mk A200
          clear A200
          by_cases c21 : t273 = t279
          · rw [if_pos c21] at H
            have c21b0 : (t273 == t279) = true := beq_iff_eq.mpr c21
            have c21b1 : (t273 != t279) = false := bne_eq_false_iff_eq.mpr c21
            clear c21
            by_cases c22 : t272 = 0
            · rw [if_pos c22] at H
              have c22b0 : (t272 == 0) = true := beq_iff_eq.mpr c22
              have c22b1 : (t272 != 0) = false := bne_eq_false_iff_eq.mpr c22
              clear c22
              obtain ⟨y280, hy280⟩ : ∃ y_ : List Int, y_ = (([t270, t271] : List Int)) := ⟨_, rfl⟩
              replace H : ((impl_RootOf.f k y280).bind fun bt283 => (laws_FnTwins.j0 k t266 (bt283.2 != t273))) = some r := by first | (rw [hy280]; with_reducible exact H) | (have H2_ := (Option.bind_some _ _).symm.trans H; rw [hy280]; with_reducible exact H2_) | (have H2_ := (Option.bind_some _ _).symm.trans H; with_reducible exact H2_) | with_reducible exact H | (rw [hy280]; exact H) | exact H
              have Ny280 := Aside0.mk hy280
              clear hy280
              replace H := Option.bind_eq_some_iff.mp H
              obtain ⟨⟨t283, t284⟩, A230, H⟩ := H
              replace H : (laws_FnTwins.j0 k t266 (t284 != t273)) = some r := H
              have A23 := Aside0.mk A230
              clear A230
              have H' := Aside0.mk H
              clear H
              try go_wp2
              have n0_ : Aside0 (Kd.R (Kd.int .i64) 2 ((w14.setCell ⟨gb274, 0, none⟩ (.int .i64 t272)).setCell ⟨gb274, 1, none⟩ (.int .i64 t273)) w.heap.size (fun _ => True) (.slice Ao10 t266.length co10) t266) := ⟨by (with_reducible repeat (first | apply Kd.R_alloc | apply Kd.R_drewN | apply Kd.R_drew)); exact Kd.R_mono (Kd.R_far (p := ⟨gb274, 1, none⟩) (Kd.R_far (p := ⟨gb274, 0, none⟩) (Kd.R_types HO268.out BK274.out (by decide)) (fun _ hk => hk.2) (.int .i64 t272)) (fun _ hk => hk.2) (.int .i64 t273)) (fun _ hk => trivial)⟩
              have n1_ : Aside0 (((w14.setCell ⟨gb274, 0, none⟩ (.int .i64 t272)).setCell ⟨gb274, 1, none⟩ (.int .i64 t273)).heap[gb274]? = some (.cells #[.int .i64 t272, .int .i64 t273] 30 (0, 0))) := ⟨by (with_reducible repeat (first | refine blk_drewN ?_ _ | refine blk_drew ?_ | refine blk_alloc ?_ _)); refine blk_put (cs := #[.int .i64 t272, .int .i64 0]) ?_ 1 _ rfl; (with_reducible repeat (first | refine blk_drewN ?_ _ | refine blk_drew ?_ | refine blk_alloc ?_ _)); refine blk_put (cs := #[.int .i64 0, .int .i64 0]) ?_ 0 _ rfl; (with_reducible repeat (first | refine blk_drewN ?_ _ | refine blk_drew ?_ | refine blk_alloc ?_ _)); exact BK274.out⟩
              have n2_ : Aside0 (Below w.heap.size w ((w14.setCell ⟨gb274, 0, none⟩ (.int .i64 t272)).setCell ⟨gb274, 1, none⟩ (.int .i64 t273))) := ⟨by repeat (first | (with_reducible first | exact HB.out | apply below_alloc | apply pw_below_drewN | apply below_drew1 | refine below_set ?_ GE274.out) | exact HB.out)⟩
              (try clear HO268)
              (try clear BK274)
              (try clear HB)
              generalize ((w14.setCell ⟨gb274, 0, none⟩ (.int .i64 t272)).setCell ⟨gb274, 1, none⟩ (.int .i64 t273)) = w24 at n0_ n1_ n2_ ⊢
              have HO268 := n0_
              have BK274 := n1_
              have HB := n2_
              clear n0_ n1_ n2_
              have n0_ := Aside0.mk (Kd.R_drew HO268.out)
              have n1_ := Aside0.mk (blk_drew BK274.out)
              have n2_ := Aside0.mk (below_drew1 HB.out)
              clear HO268
              clear BK274
              clear HB
              have HO268 := n0_
              have BK274 := n1_
              have HB := n2_
              clear n0_ n1_ n2_
              refine start_ (n := 37) (S := fun w' => w'.cell? ⟨gb274, 0, none⟩ = some (.int .i64 t272) ∧ w'.cell? ⟨gb274, 1, none⟩ = some (.int .i64 t273)) (ds := []) #[false, false, false, false, false, false, false, false, false, false, false, false, false, false, false, false, false, false, false, false, false, false, false, false, false, false, false, false, false, false, false, false, false, false, false, false, false] (by kernel_rfl) rfl rfl ⟨(blk_cell BK274.out 0).trans rfl, (blk_cell BK274.out 1).trans rfl⟩ (fun hHeld => ?_); refine with_tabW laws_FnTwins.tab7 laws_FnTwins.bits7 (fun HT_ HW_ => ?_)
              generalize w24.drew = w25 at HO268 BK274 HB hHeld ⊢
              refine pure_ (i := 0) (N := some 24) (v := ?_) (a' := ?_) #[true, false, false, false, false, false, false, false, false, false, false, false, false, false, false, false, false, false, false, false, false, false, false, false, false, false, false, false, false, false, false, false, false, false, false, false, false] rfl rfl (any_of HT_.out (by kernel_rfl)) (fun _ _ _ h => h) (Or.inl ⟨by rfl, ?_⟩) ?_ ?_
              rotate_left
              · intro w'
                go_simp
                with_reducible rfl
              rotate_left
              · simp only [Act.put, List.setIfInBounds_toArray, List.set_cons_zero, List.set_cons_succ, i64_w, i32_w]
                rfl
              refine pure_ (i := 1) (N := some 25) (v := ?_) (a' := ?_) #[true, true, false, false, false, false, false, false, false, false, false, false, false, false, false, false, false, false, false, false, false, false, false, false, false, false, false, false, false, false, false, false, false, false, false, false, false] rfl rfl (any_of HT_.out (by kernel_rfl)) (fun _ _ _ h => h) (Or.inl ⟨by rfl, ?_⟩) ?_ ?_
              rotate_left
              · intro w'
                go_simp
                with_reducible rfl
              rotate_left
              · simp only [Act.put, List.setIfInBounds_toArray, List.set_cons_zero, List.set_cons_succ, i64_w, i32_w]
                rfl
              refine one_ (i := 2) (N := some 26) #[true, true, true, false, false, false, false, false, false, false, false, false, false, false, false, false, false, false, false, false, false, false, false, false, false, false, false, false, false, false, false, false, false, false, false, false, false] rfl rfl (one_of HT_.out (by kernel_rfl)) (by decide) (fun K hK => ?_)
              refine goes_ Try.func18 (by kernel_rfl) rfl #[.slice Ao10 t266.length co10] (by rfl) rfl rfl (by (try simp only [List.map_toArray, List.map_cons, List.map_nil]); first | done | rfl | (simp only [List.length_drop, List.length_take]; rfl)) ?_
              with_reducible refine (spec_HasTwin.calls k _ _ t266 t275 _ ?side1 ?side2 A16.out).mono ?_
              (case side1 => repeat (first | exact (Kd.R_reads' HO268.out).2.2 | (with_reducible refine Kd.C_alloc ?_ _) | (with_reducible refine Kd.C_drewN ?_ _) | (with_reducible refine Kd.C_drew ?_)))
              (case side2 => exact (Kd.R_reads' HO268.out).2.1)
              rintro e w26 ⟨rfl, hb⟩
              refine ⟨_, rfl, ?_⟩
              have n0_ := Aside0.mk (Kd.R_below (by (with_reducible repeat (first | apply Kd.R_alloc | apply Kd.R_drewN | apply Kd.R_drew)); exact HO268.out) hb)
              have n1_ := Aside0.mk (blk_below (g := gb274) (o := .cells #[.int .i64 t272, .int .i64 t273] 30 (0, 0)) (by (with_reducible repeat (first | refine blk_drewN ?_ _ | refine blk_drew ?_ | refine blk_alloc ?_ _)); exact BK274.out) hb)
              have n2_ := Aside0.mk (below_step (by repeat (first | (with_reducible first | exact HB.out | apply below_alloc | apply pw_below_drewN | apply below_drew1 | refine below_set ?_ GE274.out) | exact HB.out)) hb)
              clear HO268
              clear BK274
              clear HB
              have HO268 := n0_
              have BK274 := n1_
              have HB := n2_
              clear n0_ n1_ n2_
              (try clear hb)
              (try clear hb2)
              (try clear hk)
              (try clear hi)
              refine hK.out _ _ ⟨(blk_cell BK274.out 0).trans rfl, (blk_cell BK274.out 1).trans rfl⟩ (fun hHeld => ?_)
              clear hK K
              refine norm_ (a' := ?_) ?_ ?_
              rotate_left
              · show Act.put _ (some 26) _ = _
                simp only [Act.put, List.setIfInBounds_toArray, List.set_cons_zero, List.set_cons_succ, i64_w, i32_w]
                rfl
              refine pure_ (i := 3) (N := some 27) (v := ?_) (a' := ?_) #[true, true, true, true, false, false, false, false, false, false, false, false, false, false, false, false, false, false, false, false, false, false, false, false, false, false, false, false, false, false, false, false, false, false, false, false, false] rfl rfl (any_of HT_.out (by kernel_rfl)) (fun _ _ _ h => h) (Or.inl ⟨by rfl, ?_⟩) ?_ ?_
              rotate_left
              · intro w'
                go_simp
                with_reducible rfl
              rotate_left
              · simp only [Act.put, List.setIfInBounds_toArray, List.set_cons_zero, List.set_cons_succ, i64_w, i32_w]
                rfl
              refine pure_ (i := 4) (N := some 28) (v := ?_) (a' := ?_) #[true, true, true, true, true, false, false, false, false, false, false, false, false, false, false, false, false, false, false, false, false, false, false, false, false, false, false, false, false, false, false, false, false, false, false, false, false] rfl rfl (any_of HT_.out (by kernel_rfl)) (fun _ _ _ h => h) (Or.inl ⟨by rfl, ?_⟩) ?_ ?_
              rotate_left
              · intro w'
                go_simp
                with_reducible rfl
              rotate_left
              · simp only [Act.put, List.setIfInBounds_toArray, List.set_cons_zero, List.set_cons_succ, i64_w, i32_w]
                rfl
              refine pure_ (i := 5) (N := some 29) (v := ?_) (a' := ?_) #[true, true, true, true, true, true, false, false, false, false, false, false, false, false, false, false, false, false, false, false, false, false, false, false, false, false, false, false, false, false, false, false, false, false, false, false, false] rfl rfl (any_of HT_.out (by kernel_rfl)) (fun _ _ _ h => h) (Or.inl ⟨by rfl, ?_⟩) ?_ ?_
              rotate_left
              · intro w'
                go_simp
                with_reducible rfl
              rotate_left
              · simp only [Act.put, List.setIfInBounds_toArray, List.set_cons_zero, List.set_cons_succ, i64_w, i32_w]
                rfl
              refine pure_ (i := 7) (N := some 31) (v := ?_) (a' := ?_) #[true, true, true, true, true, true, false, true, false, false, false, false, false, false, false, false, false, false, false, false, false, false, false, false, false, false, false, false, false, false, false, false, false, false, false, false, false] rfl rfl (any_of HT_.out (by kernel_rfl)) (fun _ _ _ h => h) (Or.inl ⟨by rfl, ?_⟩) ?_ ?_
              rotate_left
              · intro w'
                go_simp
                with_reducible rfl
              rotate_left
              · simp only [Act.put, List.setIfInBounds_toArray, List.set_cons_zero, List.set_cons_succ, i64_w, i32_w]
                rfl
              refine pure_ (i := 8) (N := some 32) (v := ?_) (a' := ?_) #[true, true, true, true, true, true, false, true, true, false, false, false, false, false, false, false, false, false, false, false, false, false, false, false, false, false, false, false, false, false, false, false, false, false, false, false, false] rfl rfl (any_of HT_.out (by kernel_rfl)) (fun _ _ _ h => h) (Or.inl ⟨by rfl, ?_⟩) ?_ ?_
              rotate_left
              · intro w'
                go_simp
                with_reducible rfl
              rotate_left
              · simp only [Act.put, List.setIfInBounds_toArray, List.set_cons_zero, List.set_cons_succ, i64_w, i32_w]
                rfl
              refine take_ (i := 6) (N := some 30) (v := ?_) (a' := ?_) #[true, true, true, true, true, true, true, true, true, false, false, false, false, false, false, false, false, false, false, false, false, false, false, false, false, false, false, false, false, false, false, false, false, false, false, false, false] rfl rfl (take_ofW HT_.out HW_.out (by kernel_rfl)) (fun _ _ _ h => h) (Or.inl ⟨by rfl, ?_⟩) hHeld ?_ ?_
              rotate_left
              · rintro w' ⟨s0, s1⟩
                go_simp
                with_reducible rfl
              rotate_left
              · simp only [Act.put, List.setIfInBounds_toArray, List.set_cons_zero, List.set_cons_succ, i64_w, i32_w]
                rfl
              refine one_ (i := 9) (N := some 33) #[true, true, true, true, true, true, true, true, true, true, false, false, false, false, false, false, false, false, false, false, false, false, false, false, false, false, false, false, false, false, false, false, false, false, false, false, false] rfl rfl (one_of HT_.out (by kernel_rfl)) (by decide) (fun K hK => ?_)
              refine goes_ Try.func19 (by kernel_rfl) rfl #[.int .i64 t270, .int .i64 t271] (by rfl) rfl rfl (by (try simp only [List.map_toArray, List.map_cons, List.map_nil]); first | done | rfl | (simp only [List.length_drop, List.length_take]; rfl)) ?_
              with_reducible refine (spec_JoinSums.calls k t270 t271 t276 t277 _ A18.out).mono ?_
              rintro e w27 ⟨rfl, hb⟩
              refine ⟨_, rfl, ?_⟩
              have n0_ := Aside0.mk (Kd.R_below (by (with_reducible repeat (first | apply Kd.R_alloc | apply Kd.R_drewN | apply Kd.R_drew)); exact HO268.out) hb)
              have n1_ := Aside0.mk (blk_below (g := gb274) (o := .cells #[.int .i64 t272, .int .i64 t273] 30 (0, 0)) (by (with_reducible repeat (first | refine blk_drewN ?_ _ | refine blk_drew ?_ | refine blk_alloc ?_ _)); exact BK274.out) hb)
              have n2_ := Aside0.mk (below_step (by repeat (first | (with_reducible first | exact HB.out | apply below_alloc | apply pw_below_drewN | apply below_drew1 | refine below_set ?_ GE274.out) | exact HB.out)) hb)
              clear HO268
              clear BK274
              clear HB
              have HO268 := n0_
              have BK274 := n1_
              have HB := n2_
              clear n0_ n1_ n2_
              (try clear hb)
              (try clear hb2)
              (try clear hk)
              (try clear hi)
              refine hK.out _ _ ⟨(blk_cell BK274.out 0).trans rfl, (blk_cell BK274.out 1).trans rfl⟩ (fun hHeld => ?_)
              clear hK K
              refine norm_ (a' := ?_) ?_ ?_
              rotate_left
              · show Act.put _ (some 33) _ = _
                simp only [Act.put, List.setIfInBounds_toArray, List.set_cons_zero, List.set_cons_succ, i64_w, i32_w]
                rfl
              refine pure_ (i := 10) (N := some 34) (v := ?_) (a' := ?_) #[true, true, true, true, true, true, true, true, true, true, true, false, false, false, false, false, false, false, false, false, false, false, false, false, false, false, false, false, false, false, false, false, false, false, false, false, false] rfl rfl (any_of HT_.out (by kernel_rfl)) (fun _ _ _ h => h) (Or.inl ⟨by rfl, ?_⟩) ?_ ?_
              rotate_left
              · intro w'
                go_simp
                with_reducible rfl
              rotate_left
              · simp only [Act.put, List.setIfInBounds_toArray, List.set_cons_zero, List.set_cons_succ, i64_w, i32_w]
                rfl
              refine pure_ (i := 11) (N := some 35) (v := ?_) (a' := ?_) #[true, true, true, true, true, true, true, true, true, true, true, true, false, false, false, false, false, false, false, false, false, false, false, false, false, false, false, false, false, false, false, false, false, false, false, false, false] rfl rfl (any_of HT_.out (by kernel_rfl)) (fun _ _ _ h => h) (Or.inl ⟨by rfl, ?_⟩) ?_ ?_
              rotate_left
              · intro w'
                go_simp
                with_reducible rfl
              rotate_left
              · simp only [Act.put, List.setIfInBounds_toArray, List.set_cons_zero, List.set_cons_succ, i64_w, i32_w]
                rfl
              refine pure_ (i := 12) (N := some 36) (v := ?_) (a' := ?_) #[true, true, true, true, true, true, true, true, true, true, true, true, true, false, false, false, false, false, false, false, false, false, false, false, false, false, false, false, false, false, false, false, false, false, false, false, false] rfl rfl (any_of HT_.out (by kernel_rfl)) (fun _ _ _ h => h) (Or.inl ⟨by rfl, ?_⟩) ?_ ?_
              rotate_left
              · intro w'
                go_simp
                with_reducible rfl
              rotate_left
              · simp only [Act.put, List.setIfInBounds_toArray, List.set_cons_zero, List.set_cons_succ, i64_w, i32_w]
                rfl
              refine pure_ (i := 13) (N := some 37) (v := ?_) (a' := ?_) #[true, true, true, true, true, true, true, true, true, true, true, true, true, true, false, false, false, false, false, false, false, false, false, false, false, false, false, false, false, false, false, false, false, false, false, false, false] rfl rfl (any_of HT_.out (by kernel_rfl)) (fun _ _ _ h => h) (Or.inl ⟨by rfl, ?_⟩) ?_ ?_
              rotate_left
              · intro w'
                go_simp
                with_reducible rfl
              rotate_left
              · simp only [Act.put, List.setIfInBounds_toArray, List.set_cons_zero, List.set_cons_succ, i64_w, i32_w]
                rfl
              refine pure_ (i := 14) (N := some 38) (v := ?_) (a' := ?_) #[true, true, true, true, true, true, true, true, true, true, true, true, true, true, true, false, false, false, false, false, false, false, false, false, false, false, false, false, false, false, false, false, false, false, false, false, false] rfl rfl (any_of HT_.out (by kernel_rfl)) (fun _ _ _ h => h) (Or.inl ⟨by rfl, ?_⟩) ?_ ?_
              rotate_left
              · intro w'
                go_simp
                with_reducible rfl
              rotate_left
              · simp only [Act.put, List.setIfInBounds_toArray, List.set_cons_zero, List.set_cons_succ, i64_w, i32_w]
                rfl
              refine pure_ (i := 16) (N := some 40) (v := ?_) (a' := ?_) #[true, true, true, true, true, true, true, true, true, true, true, true, true, true, true, false, true, false, false, false, false, false, false, false, false, false, false, false, false, false, false, false, false, false, false, false, false] rfl rfl (any_of HT_.out (by kernel_rfl)) (fun _ _ _ h => h) (Or.inl ⟨by rfl, ?_⟩) ?_ ?_
              rotate_left
              · intro w'
                go_simp
                with_reducible rfl
              rotate_left
              · simp only [Act.put, List.setIfInBounds_toArray, List.set_cons_zero, List.set_cons_succ, i64_w, i32_w]
                rfl
              refine pure_ (i := 17) (N := some 41) (v := ?_) (a' := ?_) #[true, true, true, true, true, true, true, true, true, true, true, true, true, true, true, false, true, true, false, false, false, false, false, false, false, false, false, false, false, false, false, false, false, false, false, false, false] rfl rfl (any_of HT_.out (by kernel_rfl)) (fun _ _ _ h => h) (Or.inl ⟨by rfl, ?_⟩) ?_ ?_
              rotate_left
              · intro w'
                go_simp
                with_reducible rfl
              rotate_left
              · simp only [Act.put, List.setIfInBounds_toArray, List.set_cons_zero, List.set_cons_succ, i64_w, i32_w]
                rfl
              refine take_ (i := 15) (N := some 39) (v := ?_) (a' := ?_) #[true, true, true, true, true, true, true, true, true, true, true, true, true, true, true, true, true, true, false, false, false, false, false, false, false, false, false, false, false, false, false, false, false, false, false, false, false] rfl rfl (take_ofW HT_.out HW_.out (by kernel_rfl)) (fun _ _ _ h => h) (Or.inl ⟨by rfl, ?_⟩) hHeld ?_ ?_
              rotate_left
              · rintro w' ⟨s0, s1⟩
                go_simp
                with_reducible rfl
              rotate_left
              · simp only [Act.put, List.setIfInBounds_toArray, List.set_cons_zero, List.set_cons_succ, i64_w, i32_w]
                rfl
              refine one_ (i := 18) (N := some 42) #[true, true, true, true, true, true, true, true, true, true, true, true, true, true, true, true, true, true, true, false, false, false, false, false, false, false, false, false, false, false, false, false, false, false, false, false, false] rfl rfl (one_of HT_.out (by kernel_rfl)) (by decide) (fun K hK => ?_)
              refine goes_ Try.func19 (by kernel_rfl) rfl #[.int .i64 t270, .int .i64 t271] (by rfl) rfl rfl (by (try simp only [List.map_toArray, List.map_cons, List.map_nil]); first | done | rfl | (simp only [List.length_drop, List.length_take]; rfl)) ?_
              with_reducible refine (spec_JoinSums.calls k t270 t271 t278 t279 _ A20.out).mono ?_
              rintro e w28 ⟨rfl, hb⟩
              refine ⟨_, rfl, ?_⟩
              have n0_ := Aside0.mk (Kd.R_below (by (with_reducible repeat (first | apply Kd.R_alloc | apply Kd.R_drewN | apply Kd.R_drew)); exact HO268.out) hb)
              have n1_ := Aside0.mk (blk_below (g := gb274) (o := .cells #[.int .i64 t272, .int .i64 t273] 30 (0, 0)) (by (with_reducible repeat (first | refine blk_drewN ?_ _ | refine blk_drew ?_ | refine blk_alloc ?_ _)); exact BK274.out) hb)
              have n2_ := Aside0.mk (below_step (by repeat (first | (with_reducible first | exact HB.out | apply below_alloc | apply pw_below_drewN | apply below_drew1 | refine below_set ?_ GE274.out) | exact HB.out)) hb)
              clear HO268
              clear BK274
              clear HB
              have HO268 := n0_
              have BK274 := n1_
              have HB := n2_
              clear n0_ n1_ n2_
              (try clear hb)
              (try clear hb2)
              (try clear hk)
              (try clear hi)
              refine hK.out _ _ ⟨(blk_cell BK274.out 0).trans rfl, (blk_cell BK274.out 1).trans rfl⟩ (fun hHeld => ?_)
              clear hK K
              refine norm_ (a' := ?_) ?_ ?_
              rotate_left
              · show Act.put _ (some 42) _ = _
                simp only [Act.put, List.setIfInBounds_toArray, List.set_cons_zero, List.set_cons_succ, i64_w, i32_w]
                rfl
              refine pure_ (i := 19) (N := some 43) (v := ?_) (a' := ?_) #[true, true, true, true, true, true, true, true, true, true, true, true, true, true, true, true, true, true, true, true, false, false, false, false, false, false, false, false, false, false, false, false, false, false, false, false, false] rfl rfl (any_of HT_.out (by kernel_rfl)) (fun _ _ _ h => h) (Or.inl ⟨by rfl, ?_⟩) ?_ ?_
              rotate_left
              · intro w'
                go_simp
                with_reducible rfl
              rotate_left
              · simp only [Act.put, List.setIfInBounds_toArray, List.set_cons_zero, List.set_cons_succ, i64_w, i32_w]
                rfl
              refine pure_ (i := 20) (N := some 44) (v := ?_) (a' := ?_) #[true, true, true, true, true, true, true, true, true, true, true, true, true, true, true, true, true, true, true, true, true, false, false, false, false, false, false, false, false, false, false, false, false, false, false, false, false] rfl rfl (any_of HT_.out (by kernel_rfl)) (fun _ _ _ h => h) (Or.inl ⟨by rfl, ?_⟩) ?_ ?_
              rotate_left
              · intro w'
                go_simp
                with_reducible rfl
              rotate_left
              · simp only [Act.put, List.setIfInBounds_toArray, List.set_cons_zero, List.set_cons_succ, i64_w, i32_w]
                rfl
              refine pure_ (i := 21) (N := some 45) (v := ?_) (a' := ?_) #[true, true, true, true, true, true, true, true, true, true, true, true, true, true, true, true, true, true, true, true, true, true, false, false, false, false, false, false, false, false, false, false, false, false, false, false, false] rfl rfl (any_of HT_.out (by kernel_rfl)) (fun _ _ _ h => h) (Or.inl ⟨by rfl, ?_⟩) ?_ ?_
              rotate_left
              · intro w'
                go_simp
                with_reducible rfl
              rotate_left
              · simp only [Act.put, List.setIfInBounds_toArray, List.set_cons_zero, List.set_cons_succ, i64_w, i32_w]
                rfl
              refine pure_ (i := 22) (N := some 46) (v := ?_) (a' := ?_) #[true, true, true, true, true, true, true, true, true, true, true, true, true, true, true, true, true, true, true, true, true, true, true, false, false, false, false, false, false, false, false, false, false, false, false, false, false] rfl rfl (any_of HT_.out (by kernel_rfl)) (fun _ _ _ h => h) (Or.inl ⟨by rfl, ?_⟩) ?_ ?_
              rotate_left
              · intro w'
                go_simp
                with_reducible rfl
              rotate_left
              · simp only [Act.put, List.setIfInBounds_toArray, List.set_cons_zero, List.set_cons_succ, i64_w, i32_w]
                rfl
              refine pure_ (i := 23) (N := some 47) (v := ?_) (a' := ?_) #[true, true, true, true, true, true, true, true, true, true, true, true, true, true, true, true, true, true, true, true, true, true, true, true, false, false, false, false, false, false, false, false, false, false, false, false, false] rfl rfl (any_of HT_.out (by kernel_rfl)) (fun _ _ _ h => h) (Or.inl ⟨by rfl, ?_⟩) ?_ ?_
              rotate_left
              · intro w'
                go_simp
                with_reducible rfl
              rotate_left
              · simp only [Act.put, List.setIfInBounds_toArray, List.set_cons_zero, List.set_cons_succ, i64_w, i32_w]
                rfl
              refine take_ (i := 24) (N := some 48) (v := ?_) (a' := ?_) #[true, true, true, true, true, true, true, true, true, true, true, true, true, true, true, true, true, true, true, true, true, true, true, true, true, false, false, false, false, false, false, false, false, false, false, false, false] rfl rfl (take_ofW HT_.out HW_.out (by kernel_rfl)) (fun _ _ _ h => h) (Or.inl ⟨by rfl, ?_⟩) hHeld ?_ ?_
              rotate_left
              · rintro w' ⟨s0, s1⟩
                go_simp
                with_reducible rfl
              rotate_left
              · simp only [Act.put, List.setIfInBounds_toArray, List.set_cons_zero, List.set_cons_succ, i64_w, i32_w]
                rfl
              refine pure_ (i := 25) (N := some 49) (v := ?_) (a' := ?_) #[true, true, true, true, true, true, true, true, true, true, true, true, true, true, true, true, true, true, true, true, true, true, true, true, true, true, false, false, false, false, false, false, false, false, false, false, false] rfl rfl (any_of HT_.out (by kernel_rfl)) (fun _ _ _ h => h) (Or.inl ⟨by rfl, ?_⟩) ?_ ?_
              rotate_left
              · intro w'
                go_simp
                with_reducible rfl
              rotate_left
              · simp only [Act.put, List.setIfInBounds_toArray, List.set_cons_zero, List.set_cons_succ, i64_w, i32_w]
                rfl
              refine pure_ (i := 26) (N := some 50) (v := ?_) (a' := ?_) #[true, true, true, true, true, true, true, true, true, true, true, true, true, true, true, true, true, true, true, true, true, true, true, true, true, true, true, false, false, false, false, false, false, false, false, false, false] rfl rfl (any_of HT_.out (by kernel_rfl)) (fun _ _ _ h => h) (Or.inl ⟨by rfl, ?_⟩) ?_ ?_
              rotate_left
              · intro w'
                go_simp
                with_reducible rfl
              rotate_left
              · simp only [Act.put, List.setIfInBounds_toArray, List.set_cons_zero, List.set_cons_succ, i64_w, i32_w]
                rfl
              refine pure_ (i := 27) (N := some 51) (v := ?_) (a' := ?_) #[true, true, true, true, true, true, true, true, true, true, true, true, true, true, true, true, true, true, true, true, true, true, true, true, true, true, true, true, false, false, false, false, false, false, false, false, false] rfl rfl (any_of HT_.out (by kernel_rfl)) (fun _ _ _ h => h) (Or.inl ⟨by rfl, ?_⟩) ?_ ?_
              rotate_left
              · intro w'
                go_simp
                with_reducible rfl
              rotate_left
              · simp only [Act.put, List.setIfInBounds_toArray, List.set_cons_zero, List.set_cons_succ, i64_w, i32_w]
                rfl
              refine pure_ (i := 28) (N := some 52) (v := ?_) (a' := ?_) #[true, true, true, true, true, true, true, true, true, true, true, true, true, true, true, true, true, true, true, true, true, true, true, true, true, true, true, true, true, false, false, false, false, false, false, false, false] rfl rfl (any_of HT_.out (by kernel_rfl)) (fun _ _ _ h => h) (Or.inl ⟨by rfl, ?_⟩) ?_ ?_
              rotate_left
              · intro w'
                go_simp
                with_reducible rfl
              rotate_left
              · simp only [Act.put, List.setIfInBounds_toArray, List.set_cons_zero, List.set_cons_succ, i64_w, i32_w]
                rfl
              refine pure_ (i := 32) (N := some 56) (v := ?_) (a' := ?_) #[true, true, true, true, true, true, true, true, true, true, true, true, true, true, true, true, true, true, true, true, true, true, true, true, true, true, true, true, true, false, false, false, true, false, false, false, false] rfl rfl (any_of HT_.out (by kernel_rfl)) (fun _ _ _ h => h) (Or.inl ⟨by rfl, ?_⟩) ?_ ?_
              rotate_left
              · intro w'
                go_simp
                with_reducible rfl
              rotate_left
              · simp only [Act.put, List.setIfInBounds_toArray, List.set_cons_zero, List.set_cons_succ, i64_w, i32_w]
                rfl
              refine take_ (i := 33) (N := some 57) (v := ?_) (a' := ?_) #[true, true, true, true, true, true, true, true, true, true, true, true, true, true, true, true, true, true, true, true, true, true, true, true, true, true, true, true, true, false, false, false, true, true, false, false, false] rfl rfl (take_ofW HT_.out HW_.out (by kernel_rfl)) (fun _ _ _ h => h) (Or.inl ⟨by rfl, ?_⟩) hHeld ?_ ?_
              rotate_left
              · rintro w' ⟨s0, s1⟩
                go_simp
                with_reducible rfl
              rotate_left
              · simp only [Act.put, List.setIfInBounds_toArray, List.set_cons_zero, List.set_cons_succ, i64_w, i32_w]
                rfl
              refine one_ (i := 29) (N := some 53) #[true, true, true, true, true, true, true, true, true, true, true, true, true, true, true, true, true, true, true, true, true, true, true, true, true, true, true, true, true, true, false, false, true, true, false, false, false] rfl rfl (one_of HT_.out (by kernel_rfl)) (by decide) (fun K hK => ?_)
              refine Kd.R_lit_step (Kd.int .i64) _ 2 ?hg (N := 53) ?hd (xs := ([t270, t271] : List Int)) (inner := [.int .i64 t270, .int .i64 t271]) (ok := fun _ => True) (okp := fun _ => True) ?hr ?hp (fun _ hk => hk) trivial (Below.refl _ _) (Nat.le_refl _) (by simp) ?_; (case hd => rfl); (case hg => rfl); (case hr => first | (go_simp; done) | (go_simp; rfl)); (case hp => exact (Reps.one (show Kd.M (Kd.int .i64) _ _ _ t270 [.int .i64 t270] from rfl) (Reps.one (show Kd.M (Kd.int .i64) _ _ _ t271 [.int .i64 t271] from rfl) (Reps.none _ _))))
              intro v281 w29 ho30 hb hg_ hnew_
              clear hg_ hnew_
              (first | rw [← Ny280.out] at ho30 | (simp only [Int.reduceToNat] at ho30; rw [← Ny280.out] at ho30))
              have n0_ := Aside0.mk (Kd.R_elder' (by (with_reducible repeat (first | apply Kd.R_alloc | apply Kd.R_drewN | apply Kd.R_drew)); exact HO268.out) (Kd.R_base ho30) hb)
              have n1_ := Aside0.mk (Kd.R_lower (Kd.R_new' ho30 (Kd.R_lt (by (with_reducible repeat (first | apply Kd.R_alloc | apply Kd.R_drewN | apply Kd.R_drew)); exact HO268.out))) (below_size (by repeat (first | (with_reducible first | exact HB.out | apply below_alloc | apply pw_below_drewN | apply below_drew1 | refine below_set ?_ GE274.out) | exact HB.out))))
              have n2_ := Aside0.mk (blk_below (g := gb274) (o := .cells #[.int .i64 t272, .int .i64 t273] 30 (0, 0)) (by (with_reducible repeat (first | refine blk_drewN ?_ _ | refine blk_drew ?_ | refine blk_alloc ?_ _)); exact BK274.out) hb)
              have n3_ := Aside0.mk (below_step (by repeat (first | (with_reducible first | exact HB.out | apply below_alloc | apply pw_below_drewN | apply below_drew1 | refine below_set ?_ GE274.out) | exact HB.out)) hb)
              clear HO268
              clear BK274
              clear HB
              have HO268 := n0_
              have HO282 := n1_
              have BK274 := n2_
              have HB := n3_
              clear n0_ n1_ n2_ n3_
              clear hb ho30
              obtain ⟨Ao31, co31, eo31⟩ := Kd.R_slice HO282.out
              (first | subst eo31 | (injection eo31 with f1_ f2_ f3_; have f4_ := f1_.symm; have f5_ := f3_.symm; clear f1_ f2_ f3_; subst f4_; subst f5_))
              refine hK.out _ _ ⟨(blk_cell BK274.out 0).trans rfl, (blk_cell BK274.out 1).trans rfl⟩ (fun hHeld => ?_)
              clear hK K
              refine norm_ (a' := ?_) ?_ ?_
              rotate_left
              · show Act.put _ (some 53) _ = _
                simp only [Act.put, List.setIfInBounds_toArray, List.set_cons_zero, List.set_cons_succ, i64_w, i32_w]
                rfl
              refine one_ (i := 30) (N := some 54) #[true, true, true, true, true, true, true, true, true, true, true, true, true, true, true, true, true, true, true, true, true, true, true, true, true, true, true, true, true, true, true, false, true, true, false, false, false] rfl rfl (one_of HT_.out (by kernel_rfl)) (by decide) (fun K hK => ?_)
              refine goes_ Try.func20 (by kernel_rfl) rfl #[.slice Ao31 y280.length co31] (by rfl) rfl rfl (by (try simp only [List.map_toArray, List.map_cons, List.map_nil]); first | done | rfl | (simp only [List.length_drop, List.length_take]; rfl)) ?_
              with_reducible refine (impl_RootOf.calls k _ _ y280 t283 t284 _ ?side1 ?side2 A23.out).mono ?_
              (case side1 => repeat (first | exact (Kd.R_reads' HO282.out).2.2 | (with_reducible refine Kd.C_alloc ?_ _) | (with_reducible refine Kd.C_drewN ?_ _) | (with_reducible refine Kd.C_drew ?_)))
              (case side2 => exact (Kd.R_reads' HO282.out).2.1)
              rintro e w32 ⟨rfl, hb⟩
              refine ⟨_, rfl, ?_⟩
              have n0_ := Aside0.mk (Kd.R_below (by (with_reducible repeat (first | apply Kd.R_alloc | apply Kd.R_drewN | apply Kd.R_drew)); exact HO268.out) hb)
              have n1_ := Aside0.mk (Kd.R_below (by (with_reducible repeat (first | apply Kd.R_alloc | apply Kd.R_drewN | apply Kd.R_drew)); exact HO282.out) hb)
              have n2_ := Aside0.mk (blk_below (g := gb274) (o := .cells #[.int .i64 t272, .int .i64 t273] 30 (0, 0)) (by (with_reducible repeat (first | refine blk_drewN ?_ _ | refine blk_drew ?_ | refine blk_alloc ?_ _)); exact BK274.out) hb)
              have n3_ := Aside0.mk (below_step (by repeat (first | (with_reducible first | exact HB.out | apply below_alloc | apply pw_below_drewN | apply below_drew1 | refine below_set ?_ GE274.out) | exact HB.out)) hb)
              clear HO268
              clear HO282
              clear BK274
              clear HB
              have HO268 := n0_
              have HO282 := n1_
              have BK274 := n2_
              have HB := n3_
              clear n0_ n1_ n2_ n3_
              (try clear hb)
              (try clear hb2)
              (try clear hk)
              (try clear hi)
              refine hK.out _ _ ⟨(blk_cell BK274.out 0).trans rfl, (blk_cell BK274.out 1).trans rfl⟩ (fun hHeld => ?_)
              clear hK K
              refine norm_ (a' := ?_) ?_ ?_
              rotate_left
              · show Act.put _ (some 54) _ = _
                simp only [Act.put, List.setIfInBounds_toArray, List.set_cons_zero, List.set_cons_succ, i64_w, i32_w]
                rfl
              refine pure_ (i := 31) (N := some 55) (v := ?_) (a' := ?_) #[true, true, true, true, true, true, true, true, true, true, true, true, true, true, true, true, true, true, true, true, true, true, true, true, true, true, true, true, true, true, true, true, true, true, false, false, false] rfl rfl (any_of HT_.out (by kernel_rfl)) (fun _ _ _ h => h) (Or.inl ⟨by rfl, ?_⟩) ?_ ?_
              rotate_left
              · intro w'
                go_simp
                with_reducible rfl
              rotate_left
              · simp only [Act.put, List.setIfInBounds_toArray, List.set_cons_zero, List.set_cons_succ, i64_w, i32_w]
                rfl
              refine pure_ (i := 34) (N := some 58) (v := ?_) (a' := ?_) #[true, true, true, true, true, true, true, true, true, true, true, true, true, true, true, true, true, true, true, true, true, true, true, true, true, true, true, true, true, true, true, true, true, true, true, false, false] rfl rfl (any_of HT_.out (by kernel_rfl)) (fun _ _ _ h => h) (Or.inl ⟨by rfl, ?_⟩) ?_ ?_
              rotate_left
              · intro w'
                go_simp
                with_reducible rfl
              rotate_left
              · simp only [Act.put, List.setIfInBounds_toArray, List.set_cons_zero, List.set_cons_succ, i64_w, i32_w]
                rfl
              refine pure_ (i := 35) (N := some 59) (v := ?_) (a' := ?_) #[true, true, true, true, true, true, true, true, true, true, true, true, true, true, true, true, true, true, true, true, true, true, true, true, true, true, true, true, true, true, true, true, true, true, true, true, false] rfl rfl (any_of HT_.out (by kernel_rfl)) (fun _ _ _ h => h) (Or.inl ⟨by rfl, ?_⟩) ?_ ?_
              rotate_left
              · intro w'
                go_simp
                with_reducible rfl
              rotate_left
              · simp only [Act.put, List.setIfInBounds_toArray, List.set_cons_zero, List.set_cons_succ, i64_w, i32_w]
                rfl
              refine pure_ (i := 36) (N := some 60) (v := ?_) (a' := ?_) #[true, true, true, true, true, true, true, true, true, true, true, true, true, true, true, true, true, true, true, true, true, true, true, true, true, true, true, true, true, true, true, true, true, true, true, true, true] rfl rfl (any_of HT_.out (by kernel_rfl)) (fun _ _ _ h => h) (Or.inl ⟨by rfl, ?_⟩) ?_ ?_
              rotate_left
              · intro w'
                go_simp
                with_reducible rfl
              rotate_left
              · simp only [Act.put, List.setIfInBounds_toArray, List.set_cons_zero, List.set_cons_succ, i64_w, i32_w]
                rfl
              refine done_ (done_of HT_.out (by kernel_rfl)) ?_
              try go_wp2
              go_meet
              case rel => exact ⟨_, ((t284 != t273)), (by first | rfl | (simp; done) | (simp [*]; done)), H', ⟨by first | omega | exact Nat.le_refl _⟩, ⟨by (with_reducible repeat (first | apply Kd.R_alloc | apply Kd.R_drewN | apply Kd.R_drew)); exact Kd.R_mono HO268.out (fun _ hk => trivial)⟩, ⟨by (with_reducible repeat (first | refine blk_drewN ?_ _ | refine blk_drew ?_ | refine blk_alloc ?_ _)); exact BK274.out⟩, ⟨by repeat (first | (with_reducible first | exact HB.out | apply below_alloc | apply pw_below_drewN | apply below_drew1 | refine below_set ?_ GE274.out) | exact HB.out)⟩⟩
            · rw [if_neg c22] at H
              have c22b0 : (t272 == 0) = false := beq_eq_false_iff_ne.mpr c22
              have c22b1 : (t272 != 0) = true := bne_iff_ne.mpr c22
              have H' := Aside0.mk H
              clear H
              try go_wp2
              have n0_ : Aside0 (Kd.R (Kd.int .i64) 2 ((w14.setCell ⟨gb274, 0, none⟩ (.int .i64 t272)).setCell ⟨gb274, 1, none⟩ (.int .i64 t273)) w.heap.size (fun _ => True) (.slice Ao10 t266.length co10) t266) := ⟨by (with_reducible repeat (first | apply Kd.R_alloc | apply Kd.R_drewN | apply Kd.R_drew)); exact Kd.R_mono (Kd.R_far (p := ⟨gb274, 1, none⟩) (Kd.R_far (p := ⟨gb274, 0, none⟩) (Kd.R_types HO268.out BK274.out (by decide)) (fun _ hk => hk.2) (.int .i64 t272)) (fun _ hk => hk.2) (.int .i64 t273)) (fun _ hk => trivial)⟩
              have n1_ : Aside0 (((w14.setCell ⟨gb274, 0, none⟩ (.int .i64 t272)).setCell ⟨gb274, 1, none⟩ (.int .i64 t273)).heap[gb274]? = some (.cells #[.int .i64 t272, .int .i64 t273] 30 (0, 0))) := ⟨by (with_reducible repeat (first | refine blk_drewN ?_ _ | refine blk_drew ?_ | refine blk_alloc ?_ _)); refine blk_put (cs := #[.int .i64 t272, .int .i64 0]) ?_ 1 _ rfl; (with_reducible repeat (first | refine blk_drewN ?_ _ | refine blk_drew ?_ | refine blk_alloc ?_ _)); refine blk_put (cs := #[.int .i64 0, .int .i64 0]) ?_ 0 _ rfl; (with_reducible repeat (first | refine blk_drewN ?_ _ | refine blk_drew ?_ | refine blk_alloc ?_ _)); exact BK274.out⟩
              have n2_ : Aside0 (Below w.heap.size w ((w14.setCell ⟨gb274, 0, none⟩ (.int .i64 t272)).setCell ⟨gb274, 1, none⟩ (.int .i64 t273))) := ⟨by repeat (first | (with_reducible first | exact HB.out | apply below_alloc | apply pw_below_drewN | apply below_drew1 | refine below_set ?_ GE274.out) | exact HB.out)⟩
              (try clear HO268)
              (try clear BK274)
              (try clear HB)
              generalize ((w14.setCell ⟨gb274, 0, none⟩ (.int .i64 t272)).setCell ⟨gb274, 1, none⟩ (.int .i64 t273)) = w33 at n0_ n1_ n2_ ⊢
              have HO268 := n0_
              have BK274 := n1_
              have HB := n2_
              clear n0_ n1_ n2_
              have n0_ := Aside0.mk (Kd.R_drew HO268.out)
              have n1_ := Aside0.mk (blk_drew BK274.out)
              have n2_ := Aside0.mk (below_drew1 HB.out)
              clear HO268
              clear BK274
              clear HB
              have HO268 := n0_
              have BK274 := n1_
              have HB := n2_
              clear n0_ n1_ n2_
              refine start_ (n := 37) (S := fun w' => w'.cell? ⟨gb274, 0, none⟩ = some (.int .i64 t272) ∧ w'.cell? ⟨gb274, 1, none⟩ = some (.int .i64 t273)) (ds := []) #[false, false, false, false, false, false, false, false, false, false, false, false, false, false, false, false, false, false, false, false, false, false, false, false, false, false, false, false, false, false, false, false, false, false, false, false, false] (by kernel_rfl) rfl rfl ⟨(blk_cell BK274.out 0).trans rfl, (blk_cell BK274.out 1).trans rfl⟩ (fun hHeld => ?_); refine with_tabW laws_FnTwins.tab7 laws_FnTwins.bits7 (fun HT_ HW_ => ?_)
              generalize w33.drew = w34 at HO268 BK274 HB hHeld ⊢
              refine pure_ (i := 0) (N := some 24) (v := ?_) (a' := ?_) #[true, false, false, false, false, false, false, false, false, false, false, false, false, false, false, false, false, false, false, false, false, false, false, false, false, false, false, false, false, false, false, false, false, false, false, false, false] rfl rfl (any_of HT_.out (by kernel_rfl)) (fun _ _ _ h => h) (Or.inl ⟨by rfl, ?_⟩) ?_ ?_
              rotate_left
              · intro w'
                go_simp
                with_reducible rfl
              rotate_left
              · simp only [Act.put, List.setIfInBounds_toArray, List.set_cons_zero, List.set_cons_succ, i64_w, i32_w]
                rfl
              refine pure_ (i := 1) (N := some 25) (v := ?_) (a' := ?_) #[true, true, false, false, false, false, false, false, false, false, false, false, false, false, false, false, false, false, false, false, false, false, false, false, false, false, false, false, false, false, false, false, false, false, false, false, false] rfl rfl (any_of HT_.out (by kernel_rfl)) (fun _ _ _ h => h) (Or.inl ⟨by rfl, ?_⟩) ?_ ?_
              rotate_left
              · intro w'
                go_simp
                with_reducible rfl
              rotate_left
              · simp only [Act.put, List.setIfInBounds_toArray, List.set_cons_zero, List.set_cons_succ, i64_w, i32_w]
                rfl
              refine one_ (i := 2) (N := some 26) #[true, true, true, false, false, false, false, false, false, false, false, false, false, false, false, false, false, false, false, false, false, false, false, false, false, false, false, false, false, false, false, false, false, false, false, false, false] rfl rfl (one_of HT_.out (by kernel_rfl)) (by decide) (fun K hK => ?_)
              refine goes_ Try.func18 (by kernel_rfl) rfl #[.slice Ao10 t266.length co10] (by rfl) rfl rfl (by (try simp only [List.map_toArray, List.map_cons, List.map_nil]); first | done | rfl | (simp only [List.length_drop, List.length_take]; rfl)) ?_
              with_reducible refine (spec_HasTwin.calls k _ _ t266 t275 _ ?side1 ?side2 A16.out).mono ?_
              (case side1 => repeat (first | exact (Kd.R_reads' HO268.out).2.2 | (with_reducible refine Kd.C_alloc ?_ _) | (with_reducible refine Kd.C_drewN ?_ _) | (with_reducible refine Kd.C_drew ?_)))
              (case side2 => exact (Kd.R_reads' HO268.out).2.1)
              rintro e w35 ⟨rfl, hb⟩
              refine ⟨_, rfl, ?_⟩
              have n0_ := Aside0.mk (Kd.R_below (by (with_reducible repeat (first | apply Kd.R_alloc | apply Kd.R_drewN | apply Kd.R_drew)); exact HO268.out) hb)
              have n1_ := Aside0.mk (blk_below (g := gb274) (o := .cells #[.int .i64 t272, .int .i64 t273] 30 (0, 0)) (by (with_reducible repeat (first | refine blk_drewN ?_ _ | refine blk_drew ?_ | refine blk_alloc ?_ _)); exact BK274.out) hb)
              have n2_ := Aside0.mk (below_step (by repeat (first | (with_reducible first | exact HB.out | apply below_alloc | apply pw_below_drewN | apply below_drew1 | refine below_set ?_ GE274.out) | exact HB.out)) hb)
              clear HO268
              clear BK274
              clear HB
              have HO268 := n0_
              have BK274 := n1_
              have HB := n2_
              clear n0_ n1_ n2_
              (try clear hb)
              (try clear hb2)
              (try clear hk)
              (try clear hi)
              refine hK.out _ _ ⟨(blk_cell BK274.out 0).trans rfl, (blk_cell BK274.out 1).trans rfl⟩ (fun hHeld => ?_)
              clear hK K
              refine norm_ (a' := ?_) ?_ ?_
              rotate_left
              · show Act.put _ (some 26) _ = _
                simp only [Act.put, List.setIfInBounds_toArray, List.set_cons_zero, List.set_cons_succ, i64_w, i32_w]
                rfl
              refine pure_ (i := 3) (N := some 27) (v := ?_) (a' := ?_) #[true, true, true, true, false, false, false, false, false, false, false, false, false, false, false, false, false, false, false, false, false, false, false, false, false, false, false, false, false, false, false, false, false, false, false, false, false] rfl rfl (any_of HT_.out (by kernel_rfl)) (fun _ _ _ h => h) (Or.inl ⟨by rfl, ?_⟩) ?_ ?_
              rotate_left
              · intro w'
                go_simp
                with_reducible rfl
              rotate_left
              · simp only [Act.put, List.setIfInBounds_toArray, List.set_cons_zero, List.set_cons_succ, i64_w, i32_w]
                rfl
              refine pure_ (i := 4) (N := some 28) (v := ?_) (a' := ?_) #[true, true, true, true, true, false, false, false, false, false, false, false, false, false, false, false, false, false, false, false, false, false, false, false, false, false, false, false, false, false, false, false, false, false, false, false, false] rfl rfl (any_of HT_.out (by kernel_rfl)) (fun _ _ _ h => h) (Or.inl ⟨by rfl, ?_⟩) ?_ ?_
              rotate_left
              · intro w'
                go_simp
                with_reducible rfl
              rotate_left
              · simp only [Act.put, List.setIfInBounds_toArray, List.set_cons_zero, List.set_cons_succ, i64_w, i32_w]
                rfl
              refine pure_ (i := 5) (N := some 29) (v := ?_) (a' := ?_) #[true, true, true, true, true, true, false, false, false, false, false, false, false, false, false, false, false, false, false, false, false, false, false, false, false, false, false, false, false, false, false, false, false, false, false, false, false] rfl rfl (any_of HT_.out (by kernel_rfl)) (fun _ _ _ h => h) (Or.inl ⟨by rfl, ?_⟩) ?_ ?_
              rotate_left
              · intro w'
                go_simp
                with_reducible rfl
              rotate_left
              · simp only [Act.put, List.setIfInBounds_toArray, List.set_cons_zero, List.set_cons_succ, i64_w, i32_w]
                rfl
              refine pure_ (i := 7) (N := some 31) (v := ?_) (a' := ?_) #[true, true, true, true, true, true, false, true, false, false, false, false, false, false, false, false, false, false, false, false, false, false, false, false, false, false, false, false, false, false, false, false, false, false, false, false, false] rfl rfl (any_of HT_.out (by kernel_rfl)) (fun _ _ _ h => h) (Or.inl ⟨by rfl, ?_⟩) ?_ ?_
              rotate_left
              · intro w'
                go_simp
                with_reducible rfl
              rotate_left
              · simp only [Act.put, List.setIfInBounds_toArray, List.set_cons_zero, List.set_cons_succ, i64_w, i32_w]
                rfl
              refine pure_ (i := 8) (N := some 32) (v := ?_) (a' := ?_) #[true, true, true, true, true, true, false, true, true, false, false, false, false, false, false, false, false, false, false, false, false, false, false, false, false, false, false, false, false, false, false, false, false, false, false, false, false] rfl rfl (any_of HT_.out (by kernel_rfl)) (fun _ _ _ h => h) (Or.inl ⟨by rfl, ?_⟩) ?_ ?_
              rotate_left
              · intro w'
                go_simp
                with_reducible rfl
              rotate_left
              · simp only [Act.put, List.setIfInBounds_toArray, List.set_cons_zero, List.set_cons_succ, i64_w, i32_w]
                rfl
              refine take_ (i := 6) (N := some 30) (v := ?_) (a' := ?_) #[true, true, true, true, true, true, true, true, true, false, false, false, false, false, false, false, false, false, false, false, false, false, false, false, false, false, false, false, false, false, false, false, false, false, false, false, false] rfl rfl (take_ofW HT_.out HW_.out (by kernel_rfl)) (fun _ _ _ h => h) (Or.inl ⟨by rfl, ?_⟩) hHeld ?_ ?_
              rotate_left
              · rintro w' ⟨s0, s1⟩
                go_simp
                with_reducible rfl
              rotate_left
              · simp only [Act.put, List.setIfInBounds_toArray, List.set_cons_zero, List.set_cons_succ, i64_w, i32_w]
                rfl
              refine one_ (i := 9) (N := some 33) #[true, true, true, true, true, true, true, true, true, true, false, false, false, false, false, false, false, false, false, false, false, false, false, false, false, false, false, false, false, false, false, false, false, false, false, false, false] rfl rfl (one_of HT_.out (by kernel_rfl)) (by decide) (fun K hK => ?_)
              refine goes_ Try.func19 (by kernel_rfl) rfl #[.int .i64 t270, .int .i64 t271] (by rfl) rfl rfl (by (try simp only [List.map_toArray, List.map_cons, List.map_nil]); first | done | rfl | (simp only [List.length_drop, List.length_take]; rfl)) ?_
              with_reducible refine (spec_JoinSums.calls k t270 t271 t276 t277 _ A18.out).mono ?_
              rintro e w36 ⟨rfl, hb⟩
              refine ⟨_, rfl, ?_⟩
              have n0_ := Aside0.mk (Kd.R_below (by (with_reducible repeat (first | apply Kd.R_alloc | apply Kd.R_drewN | apply Kd.R_drew)); exact HO268.out) hb)
              have n1_ := Aside0.mk (blk_below (g := gb274) (o := .cells #[.int .i64 t272, .int .i64 t273] 30 (0, 0)) (by (with_reducible repeat (first | refine blk_drewN ?_ _ | refine blk_drew ?_ | refine blk_alloc ?_ _)); exact BK274.out) hb)
              have n2_ := Aside0.mk (below_step (by repeat (first | (with_reducible first | exact HB.out | apply below_alloc | apply pw_below_drewN | apply below_drew1 | refine below_set ?_ GE274.out) | exact HB.out)) hb)
              clear HO268
              clear BK274
              clear HB
              have HO268 := n0_
              have BK274 := n1_
              have HB := n2_
              clear n0_ n1_ n2_
              (try clear hb)
              (try clear hb2)
              (try clear hk)
              (try clear hi)
              refine hK.out _ _ ⟨(blk_cell BK274.out 0).trans rfl, (blk_cell BK274.out 1).trans rfl⟩ (fun hHeld => ?_)
              clear hK K
              refine norm_ (a' := ?_) ?_ ?_
              rotate_left
              · show Act.put _ (some 33) _ = _
                simp only [Act.put, List.setIfInBounds_toArray, List.set_cons_zero, List.set_cons_succ, i64_w, i32_w]
                rfl
              refine pure_ (i := 10) (N := some 34) (v := ?_) (a' := ?_) #[true, true, true, true, true, true, true, true, true, true, true, false, false, false, false, false, false, false, false, false, false, false, false, false, false, false, false, false, false, false, false, false, false, false, false, false, false] rfl rfl (any_of HT_.out (by kernel_rfl)) (fun _ _ _ h => h) (Or.inl ⟨by rfl, ?_⟩) ?_ ?_
              rotate_left
              · intro w'
                go_simp
                with_reducible rfl
              rotate_left
              · simp only [Act.put, List.setIfInBounds_toArray, List.set_cons_zero, List.set_cons_succ, i64_w, i32_w]
                rfl
              refine pure_ (i := 11) (N := some 35) (v := ?_) (a' := ?_) #[true, true, true, true, true, true, true, true, true, true, true, true, false, false, false, false, false, false, false, false, false, false, false, false, false, false, false, false, false, false, false, false, false, false, false, false, false] rfl rfl (any_of HT_.out (by kernel_rfl)) (fun _ _ _ h => h) (Or.inl ⟨by rfl, ?_⟩) ?_ ?_
              rotate_left
              · intro w'
                go_simp
                with_reducible rfl
              rotate_left
              · simp only [Act.put, List.setIfInBounds_toArray, List.set_cons_zero, List.set_cons_succ, i64_w, i32_w]
                rfl
              refine pure_ (i := 12) (N := some 36) (v := ?_) (a' := ?_) #[true, true, true, true, true, true, true, true, true, true, true, true, true, false, false, false, false, false, false, false, false, false, false, false, false, false, false, false, false, false, false, false, false, false, false, false, false] rfl rfl (any_of HT_.out (by kernel_rfl)) (fun _ _ _ h => h) (Or.inl ⟨by rfl, ?_⟩) ?_ ?_
              rotate_left
              · intro w'
                go_simp
                with_reducible rfl
              rotate_left
              · simp only [Act.put, List.setIfInBounds_toArray, List.set_cons_zero, List.set_cons_succ, i64_w, i32_w]
                rfl
              refine pure_ (i := 13) (N := some 37) (v := ?_) (a' := ?_) #[true, true, true, true, true, true, true, true, true, true, true, true, true, true, false, false, false, false, false, false, false, false, false, false, false, false, false, false, false, false, false, false, false, false, false, false, false] rfl rfl (any_of HT_.out (by kernel_rfl)) (fun _ _ _ h => h) (Or.inl ⟨by rfl, ?_⟩) ?_ ?_
              rotate_left
              · intro w'
                go_simp
                with_reducible rfl
              rotate_left
              · simp only [Act.put, List.setIfInBounds_toArray, List.set_cons_zero, List.set_cons_succ, i64_w, i32_w]
                rfl
              refine pure_ (i := 14) (N := some 38) (v := ?_) (a' := ?_) #[true, true, true, true, true, true, true, true, true, true, true, true, true, true, true, false, false, false, false, false, false, false, false, false, false, false, false, false, false, false, false, false, false, false, false, false, false] rfl rfl (any_of HT_.out (by kernel_rfl)) (fun _ _ _ h => h) (Or.inl ⟨by rfl, ?_⟩) ?_ ?_
              rotate_left
              · intro w'
                go_simp
                with_reducible rfl
              rotate_left
              · simp only [Act.put, List.setIfInBounds_toArray, List.set_cons_zero, List.set_cons_succ, i64_w, i32_w]
                rfl
              refine pure_ (i := 16) (N := some 40) (v := ?_) (a' := ?_) #[true, true, true, true, true, true, true, true, true, true, true, true, true, true, true, false, true, false, false, false, false, false, false, false, false, false, false, false, false, false, false, false, false, false, false, false, false] rfl rfl (any_of HT_.out (by kernel_rfl)) (fun _ _ _ h => h) (Or.inl ⟨by rfl, ?_⟩) ?_ ?_
              rotate_left
              · intro w'
                go_simp
                with_reducible rfl
              rotate_left
              · simp only [Act.put, List.setIfInBounds_toArray, List.set_cons_zero, List.set_cons_succ, i64_w, i32_w]
                rfl
              refine pure_ (i := 17) (N := some 41) (v := ?_) (a' := ?_) #[true, true, true, true, true, true, true, true, true, true, true, true, true, true, true, false, true, true, false, false, false, false, false, false, false, false, false, false, false, false, false, false, false, false, false, false, false] rfl rfl (any_of HT_.out (by kernel_rfl)) (fun _ _ _ h => h) (Or.inl ⟨by rfl, ?_⟩) ?_ ?_
              rotate_left
              · intro w'
                go_simp
                with_reducible rfl
              rotate_left
              · simp only [Act.put, List.setIfInBounds_toArray, List.set_cons_zero, List.set_cons_succ, i64_w, i32_w]
                rfl
              refine take_ (i := 15) (N := some 39) (v := ?_) (a' := ?_) #[true, true, true, true, true, true, true, true, true, true, true, true, true, true, true, true, true, true, false, false, false, false, false, false, false, false, false, false, false, false, false, false, false, false, false, false, false] rfl rfl (take_ofW HT_.out HW_.out (by kernel_rfl)) (fun _ _ _ h => h) (Or.inl ⟨by rfl, ?_⟩) hHeld ?_ ?_
              rotate_left
              · rintro w' ⟨s0, s1⟩
                go_simp
                with_reducible rfl
              rotate_left
              · simp only [Act.put, List.setIfInBounds_toArray, List.set_cons_zero, List.set_cons_succ, i64_w, i32_w]
                rfl
              refine one_ (i := 18) (N := some 42) #[true, true, true, true, true, true, true, true, true, true, true, true, true, true, true, true, true, true, true, false, false, false, false, false, false, false, false, false, false, false, false, false, false, false, false, false, false] rfl rfl (one_of HT_.out (by kernel_rfl)) (by decide) (fun K hK => ?_)
              refine goes_ Try.func19 (by kernel_rfl) rfl #[.int .i64 t270, .int .i64 t271] (by rfl) rfl rfl (by (try simp only [List.map_toArray, List.map_cons, List.map_nil]); first | done | rfl | (simp only [List.length_drop, List.length_take]; rfl)) ?_
              with_reducible refine (spec_JoinSums.calls k t270 t271 t278 t279 _ A20.out).mono ?_
              rintro e w37 ⟨rfl, hb⟩
              refine ⟨_, rfl, ?_⟩
              have n0_ := Aside0.mk (Kd.R_below (by (with_reducible repeat (first | apply Kd.R_alloc | apply Kd.R_drewN | apply Kd.R_drew)); exact HO268.out) hb)
              have n1_ := Aside0.mk (blk_below (g := gb274) (o := .cells #[.int .i64 t272, .int .i64 t273] 30 (0, 0)) (by (with_reducible repeat (first | refine blk_drewN ?_ _ | refine blk_drew ?_ | refine blk_alloc ?_ _)); exact BK274.out) hb)
              have n2_ := Aside0.mk (below_step (by repeat (first | (with_reducible first | exact HB.out | apply below_alloc | apply pw_below_drewN | apply below_drew1 | refine below_set ?_ GE274.out) | exact HB.out)) hb)
              clear HO268
              clear BK274
              clear HB
              have HO268 := n0_
              have BK274 := n1_
              have HB := n2_
              clear n0_ n1_ n2_
              (try clear hb)
              (try clear hb2)
              (try clear hk)
              (try clear hi)
              refine hK.out _ _ ⟨(blk_cell BK274.out 0).trans rfl, (blk_cell BK274.out 1).trans rfl⟩ (fun hHeld => ?_)
              clear hK K
              refine norm_ (a' := ?_) ?_ ?_
              rotate_left
              · show Act.put _ (some 42) _ = _
                simp only [Act.put, List.setIfInBounds_toArray, List.set_cons_zero, List.set_cons_succ, i64_w, i32_w]
                rfl
              refine pure_ (i := 19) (N := some 43) (v := ?_) (a' := ?_) #[true, true, true, true, true, true, true, true, true, true, true, true, true, true, true, true, true, true, true, true, false, false, false, false, false, false, false, false, false, false, false, false, false, false, false, false, false] rfl rfl (any_of HT_.out (by kernel_rfl)) (fun _ _ _ h => h) (Or.inl ⟨by rfl, ?_⟩) ?_ ?_
              rotate_left
              · intro w'
                go_simp
                with_reducible rfl
              rotate_left
              · simp only [Act.put, List.setIfInBounds_toArray, List.set_cons_zero, List.set_cons_succ, i64_w, i32_w]
                rfl
              refine pure_ (i := 20) (N := some 44) (v := ?_) (a' := ?_) #[true, true, true, true, true, true, true, true, true, true, true, true, true, true, true, true, true, true, true, true, true, false, false, false, false, false, false, false, false, false, false, false, false, false, false, false, false] rfl rfl (any_of HT_.out (by kernel_rfl)) (fun _ _ _ h => h) (Or.inl ⟨by rfl, ?_⟩) ?_ ?_
              rotate_left
              · intro w'
                go_simp
                with_reducible rfl
              rotate_left
              · simp only [Act.put, List.setIfInBounds_toArray, List.set_cons_zero, List.set_cons_succ, i64_w, i32_w]
                rfl
              refine pure_ (i := 21) (N := some 45) (v := ?_) (a' := ?_) #[true, true, true, true, true, true, true, true, true, true, true, true, true, true, true, true, true, true, true, true, true, true, false, false, false, false, false, false, false, false, false, false, false, false, false, false, false] rfl rfl (any_of HT_.out (by kernel_rfl)) (fun _ _ _ h => h) (Or.inl ⟨by rfl, ?_⟩) ?_ ?_
              rotate_left
              · intro w'
                go_simp
                with_reducible rfl
              rotate_left
              · simp only [Act.put, List.setIfInBounds_toArray, List.set_cons_zero, List.set_cons_succ, i64_w, i32_w]
                rfl
              refine pure_ (i := 22) (N := some 46) (v := ?_) (a' := ?_) #[true, true, true, true, true, true, true, true, true, true, true, true, true, true, true, true, true, true, true, true, true, true, true, false, false, false, false, false, false, false, false, false, false, false, false, false, false] rfl rfl (any_of HT_.out (by kernel_rfl)) (fun _ _ _ h => h) (Or.inl ⟨by rfl, ?_⟩) ?_ ?_
              rotate_left
              · intro w'
                go_simp
                with_reducible rfl
              rotate_left
              · simp only [Act.put, List.setIfInBounds_toArray, List.set_cons_zero, List.set_cons_succ, i64_w, i32_w]
                rfl
              refine pure_ (i := 23) (N := some 47) (v := ?_) (a' := ?_) #[true, true, true, true, true, true, true, true, true, true, true, true, true, true, true, true, true, true, true, true, true, true, true, true, false, false, false, false, false, false, false, false, false, false, false, false, false] rfl rfl (any_of HT_.out (by kernel_rfl)) (fun _ _ _ h => h) (Or.inl ⟨by rfl, ?_⟩) ?_ ?_
              rotate_left
              · intro w'
                go_simp
                with_reducible rfl
              rotate_left
              · simp only [Act.put, List.setIfInBounds_toArray, List.set_cons_zero, List.set_cons_succ, i64_w, i32_w]
                rfl
              refine take_ (i := 24) (N := some 48) (v := ?_) (a' := ?_) #[true, true, true, true, true, true, true, true, true, true, true, true, true, true, true, true, true, true, true, true, true, true, true, true, true, false, false, false, false, false, false, false, false, false, false, false, false] rfl rfl (take_ofW HT_.out HW_.out (by kernel_rfl)) (fun _ _ _ h => h) (Or.inl ⟨by rfl, ?_⟩) hHeld ?_ ?_
              rotate_left
              · rintro w' ⟨s0, s1⟩
                go_simp
                with_reducible rfl
              rotate_left
              · simp only [Act.put, List.setIfInBounds_toArray, List.set_cons_zero, List.set_cons_succ, i64_w, i32_w]
                rfl
              refine pure_ (i := 25) (N := some 49) (v := ?_) (a' := ?_) #[true, true, true, true, true, true, true, true, true, true, true, true, true, true, true, true, true, true, true, true, true, true, true, true, true, true, false, false, false, false, false, false, false, false, false, false, false] rfl rfl (any_of HT_.out (by kernel_rfl)) (fun _ _ _ h => h) (Or.inl ⟨by rfl, ?_⟩) ?_ ?_
              rotate_left
              · intro w'
                go_simp
                with_reducible rfl
              rotate_left
              · simp only [Act.put, List.setIfInBounds_toArray, List.set_cons_zero, List.set_cons_succ, i64_w, i32_w]
                rfl
              refine pure_ (i := 26) (N := some 50) (v := ?_) (a' := ?_) #[true, true, true, true, true, true, true, true, true, true, true, true, true, true, true, true, true, true, true, true, true, true, true, true, true, true, true, false, false, false, false, false, false, false, false, false, false] rfl rfl (any_of HT_.out (by kernel_rfl)) (fun _ _ _ h => h) (Or.inl ⟨by rfl, ?_⟩) ?_ ?_
              rotate_left
              · intro w'
                go_simp
                with_reducible rfl
              rotate_left
              · simp only [Act.put, List.setIfInBounds_toArray, List.set_cons_zero, List.set_cons_succ, i64_w, i32_w]
                rfl
              refine pure_ (i := 27) (N := some 51) (v := undef) (a' := ?_) #[true, true, true, true, true, true, true, true, true, true, true, true, true, true, true, true, true, true, true, true, true, true, true, true, true, true, true, true, false, false, false, false, false, false, false, false, false] rfl rfl (any_of HT_.out (by kernel_rfl)) (fun _ _ _ h => h) (Or.inr ⟨by rfl, rfl⟩) ?_ ?_
              rotate_left
              · simp only [Act.put, List.setIfInBounds_toArray, List.set_cons_zero, List.set_cons_succ, i64_w, i32_w]
                rfl
              refine pure_ (i := 28) (N := some 52) (v := undef) (a' := ?_) #[true, true, true, true, true, true, true, true, true, true, true, true, true, true, true, true, true, true, true, true, true, true, true, true, true, true, true, true, true, false, false, false, false, false, false, false, false] rfl rfl (any_of HT_.out (by kernel_rfl)) (fun _ _ _ h => h) (Or.inr ⟨by rfl, rfl⟩) ?_ ?_
              rotate_left
              · simp only [Act.put, List.setIfInBounds_toArray, List.set_cons_zero, List.set_cons_succ, i64_w, i32_w]
                rfl
              refine pure_ (i := 29) (N := some 53) (v := undef) (a' := ?_) #[true, true, true, true, true, true, true, true, true, true, true, true, true, true, true, true, true, true, true, true, true, true, true, true, true, true, true, true, true, true, false, false, false, false, false, false, false] rfl rfl (any_of HT_.out (by kernel_rfl)) (fun _ _ _ h => h) (Or.inr ⟨by rfl, rfl⟩) ?_ ?_
              rotate_left
              · simp only [Act.put, List.setIfInBounds_toArray, List.set_cons_zero, List.set_cons_succ, i64_w, i32_w]
                rfl
              refine pure_ (i := 30) (N := some 54) (v := undef) (a' := ?_) #[true, true, true, true, true, true, true, true, true, true, true, true, true, true, true, true, true, true, true, true, true, true, true, true, true, true, true, true, true, true, true, false, false, false, false, false, false] rfl rfl (any_of HT_.out (by kernel_rfl)) (fun _ _ _ h => h) (Or.inr ⟨by rfl, rfl⟩) ?_ ?_
              rotate_left
              · simp only [Act.put, List.setIfInBounds_toArray, List.set_cons_zero, List.set_cons_succ, i64_w, i32_w]
                rfl
              refine pure_ (i := 31) (N := some 55) (v := undef) (a' := ?_) #[true, true, true, true, true, true, true, true, true, true, true, true, true, true, true, true, true, true, true, true, true, true, true, true, true, true, true, true, true, true, true, true, false, false, false, false, false] rfl rfl (any_of HT_.out (by kernel_rfl)) (fun _ _ _ h => h) (Or.inr ⟨by rfl, rfl⟩) ?_ ?_
              rotate_left
              · simp only [Act.put, List.setIfInBounds_toArray, List.set_cons_zero, List.set_cons_succ, i64_w, i32_w]
                rfl
              refine pure_ (i := 32) (N := some 56) (v := undef) (a' := ?_) #[true, true, true, true, true, true, true, true, true, true, true, true, true, true, true, true, true, true, true, true, true, true, true, true, true, true, true, true, true, true, true, true, true, false, false, false, false] rfl rfl (any_of HT_.out (by kernel_rfl)) (fun _ _ _ h => h) (Or.inr ⟨by rfl, rfl⟩) ?_ ?_
              rotate_left
              · simp only [Act.put, List.setIfInBounds_toArray, List.set_cons_zero, List.set_cons_succ, i64_w, i32_w]
                rfl
              refine pure_ (i := 33) (N := some 57) (v := undef) (a' := ?_) #[true, true, true, true, true, true, true, true, true, true, true, true, true, true, true, true, true, true, true, true, true, true, true, true, true, true, true, true, true, true, true, true, true, true, false, false, false] rfl rfl (any_of HT_.out (by kernel_rfl)) (fun _ _ _ h => h) (Or.inr ⟨by rfl, rfl⟩) ?_ ?_
              rotate_left
              · simp only [Act.put, List.setIfInBounds_toArray, List.set_cons_zero, List.set_cons_succ, i64_w, i32_w]
                rfl
              refine pure_ (i := 34) (N := some 58) (v := undef) (a' := ?_) #[true, true, true, true, true, true, true, true, true, true, true, true, true, true, true, true, true, true, true, true, true, true, true, true, true, true, true, true, true, true, true, true, true, true, true, false, false] rfl rfl (any_of HT_.out (by kernel_rfl)) (fun _ _ _ h => h) (Or.inr ⟨by rfl, rfl⟩) ?_ ?_
              rotate_left
              · simp only [Act.put, List.setIfInBounds_toArray, List.set_cons_zero, List.set_cons_succ, i64_w, i32_w]
                rfl
              refine pure_ (i := 35) (N := some 59) (v := ?_) (a' := ?_) #[true, true, true, true, true, true, true, true, true, true, true, true, true, true, true, true, true, true, true, true, true, true, true, true, true, true, true, true, true, true, true, true, true, true, true, true, false] rfl rfl (any_of HT_.out (by kernel_rfl)) (fun _ _ _ h => h) (Or.inl ⟨by rfl, ?_⟩) ?_ ?_
              rotate_left
              · intro w'
                go_simp
                with_reducible rfl
              rotate_left
              · simp only [Act.put, List.setIfInBounds_toArray, List.set_cons_zero, List.set_cons_succ, i64_w, i32_w]
                rfl
              refine pure_ (i := 36) (N := some 60) (v := ?_) (a' := ?_) #[true, true, true, true, true, true, true, true, true, true, true, true, true, true, true, true, true, true, true, true, true, true, true, true, true, true, true, true, true, true, true, true, true, true, true, true, true] rfl rfl (any_of HT_.out (by kernel_rfl)) (fun _ _ _ h => h) (Or.inl ⟨by rfl, ?_⟩) ?_ ?_
              rotate_left
              · intro w'
                go_simp
                with_reducible rfl
              rotate_left
              · simp only [Act.put, List.setIfInBounds_toArray, List.set_cons_zero, List.set_cons_succ, i64_w, i32_w]
                rfl
              refine done_ (done_of HT_.out (by kernel_rfl)) ?_
              try go_wp2
              go_meet
              case rel => exact ⟨_, (false), (by first | rfl | (simp; done) | (simp [*]; done)), H', ⟨by first | omega | exact Nat.le_refl _⟩, ⟨by (with_reducible repeat (first | apply Kd.R_alloc | apply Kd.R_drewN | apply Kd.R_drew)); exact HO268.out⟩, ⟨by (with_reducible repeat (first | refine blk_drewN ?_ _ | refine blk_drew ?_ | refine blk_alloc ?_ _)); exact BK274.out⟩, ⟨by repeat (first | (with_reducible first | exact HB.out | apply below_alloc | apply pw_below_drewN | apply below_drew1 | refine below_set ?_ GE274.out) | exact HB.out)⟩⟩
          · rw [if_neg c21] at H
            have c21b0 : (t273 == t279) = false := beq_eq_false_iff_ne.mpr c21
            have c21b1 : (t273 != t279) = true := bne_iff_ne.mpr c21
            exact absurd H (by simp)
        · rw [if_neg c19] at H
          have c19b0 : (t272 == t276) = false := beq_eq_false_iff_ne.mpr c19
          have c19b1 : (t272 != t276) = true := bne_iff_ne.mpr c19
          exact absurd H (by simp)
    case rest =>
      clear HC8
      try clear c1
      try clear c2
      try clear p2
      try clear c18
      try clear c19
      try clear c19b0
      try clear c19b1
      try clear c20
      try clear c21
      try clear c21b0
      try clear c21b1
      try clear c22
      try clear c22b0
      try clear c22b1
      obtain ⟨kq, x60_7, rfl, HA, HJ7, HO_3, BK274, HB⟩ := hcut
      cases kq with
      | zero => exact absurd HA.out (by simp [laws_FnTwins.j0])
      | succ kj7 =>
        have H := HA.out
        clear HA
        simp only [laws_FnTwins.j0] at H
        by_cases c38 : x60_7 = true
        · subst c38
          have H1 : (none) = some r := by rw [if_pos rfl] at H; exact H
          clear H
          have H := H1
          clear H1
          exact absurd H (by simp)
        · replace c38 := Bool.eq_false_iff.mpr c38
          subst c38
          have H1 : (if (t266.length : Int) = 0 then (laws_FnTwins.j1 kj7 t266 true) else (if (t266.length : Int) > 4 then (laws_FnTwins.j1 kj7 t266 true) else ((impl_RootOf.f kj7 t266).bind fun bt285 => (laws_FnTwins.j1 kj7 t266 (bt285.1 != 0))))) = some r := by rw [if_neg (show ¬ (false = true) by decide)] at H; exact H
          clear H
          have H := H1
          clear H1
          have HC39 := Aside0.mk H
          clear H
          go_upto_region 9 with (fail)
          go_cut [74] (fun v74 wc => ∃ (kq : Nat) (x74_38 : Bool), v74 = .bool x74_38 ∧ Aside0 (laws_FnTwins.j1 kq t266 x74_38 = some r) ∧ Aside0 (kq ≤ kj7) ∧ Aside0 (Kd.R (Kd.int .i64) 2 wc w.heap.size (fun _ => True) (.slice Ao10 t266.length co10) t266) ∧ Aside0 (wc.heap[gb274]? = some (.cells #[.int .i64 t272, .int .i64 t273] 30 (0, 0))) ∧ Aside0 (Below w.heap.size w wc))
          case first =>
            have H := HC39.out
            clear HC39
            by_cases c40 : (t266.length : Int) = 0
            · rw [if_pos c40] at H
              have c40b0 : ((t266.length : Int) == 0) = true := beq_iff_eq.mpr c40
              have c40b1 : ((t266.length : Int) != 0) = false := bne_eq_false_iff_eq.mpr c40
              clear c40
              (first | rw [c40b0] | (simp only [i64_w, i32_w]; rw [c40b0]) | skip)
              have H' := Aside0.mk H
              clear H
              go_wp2
              go_meet
              case rel => exact ⟨_, (true), (by first | rfl | (simp; done) | (simp [*]; done)), H', ⟨by have := HJ7.out; first | omega | exact Nat.le_refl _⟩, ⟨by (with_reducible repeat (first | apply Kd.R_alloc | apply Kd.R_drewN | apply Kd.R_drew)); exact HO_3.out⟩, ⟨by (with_reducible repeat (first | refine blk_drewN ?_ _ | refine blk_drew ?_ | refine blk_alloc ?_ _)); exact BK274.out⟩, ⟨by repeat (first | (with_reducible first | exact HB.out | apply below_alloc | apply pw_below_drewN | apply below_drew1 | refine below_set ?_ GE274.out) | exact HB.out)⟩⟩
            · rw [if_neg c40] at H
              have c40b0 : ((t266.length : Int) == 0) = false := beq_eq_false_iff_ne.mpr c40
              have c40b1 : ((t266.length : Int) != 0) = true := bne_iff_ne.mpr c40
              have c40b2 : ¬ (t266 = []) := fun h_ => c40 (by rw [h_]; rfl)
              (first | rw [c40b0] | (simp only [i64_w, i32_w]; rw [c40b0]) | skip)
              by_cases c41 : (t266.length : Int) > 4
              · rw [if_pos c41] at H
                have c41b0 : decide (4 < (t266.length : Int)) = true := decide_eq_true c41
                have c41b1 : decide (4 < t266.length) = true := decide_eq_true (by omega)
                clear c41
                have H' := Aside0.mk H
                clear H
                go_wp2
                go_meet
                case rel => exact ⟨_, (true), (by first | rfl | (simp; done) | (simp [*]; done)), H', ⟨by have := HJ7.out; first | omega | exact Nat.le_refl _⟩, ⟨by (with_reducible repeat (first | apply Kd.R_alloc | apply Kd.R_drewN | apply Kd.R_drew)); exact HO_3.out⟩, ⟨by (with_reducible repeat (first | refine blk_drewN ?_ _ | refine blk_drew ?_ | refine blk_alloc ?_ _)); exact BK274.out⟩, ⟨by repeat (first | (with_reducible first | exact HB.out | apply below_alloc | apply pw_below_drewN | apply below_drew1 | refine below_set ?_ GE274.out) | exact HB.out)⟩⟩
              · rw [if_neg c41] at H
                have c41b0 : decide (4 < (t266.length : Int)) = false := decide_eq_false c41
                have c41b1 : decide (4 < t266.length) = false := decide_eq_false (by omega)
                clear c41
                replace H := Option.bind_eq_some_iff.mp H
                obtain ⟨⟨t285, t286⟩, A420, H⟩ := H
                replace H : (laws_FnTwins.j1 kj7 t266 (t285 != 0)) = some r := H
                have A42 := Aside0.mk A420
                clear A420
                have H' := Aside0.mk H
                clear H
                go_wp2_with (first | (go_at_call 20; (with_reducible refine (impl_RootOf.calls kj7 _ _ t266 t285 t286 _ ?side1 ?side2 A42.out).mono ?_); (case side1 => repeat (first | exact (Kd.R_reads' HO_3.out).2.2 | (with_reducible refine Kd.C_alloc ?_ _) | (with_reducible refine Kd.C_drewN ?_ _) | (with_reducible refine Kd.C_drew ?_))); (case side2 => exact (Kd.R_reads' HO_3.out).2.1); rintro e w43 ⟨rfl, hb⟩; have n0_ := Aside0.mk (Kd.R_below (by (with_reducible repeat (first | apply Kd.R_alloc | apply Kd.R_drewN | apply Kd.R_drew)); exact HO_3.out) hb); have n1_ := Aside0.mk (blk_below (g := gb274) (o := .cells #[.int .i64 t272, .int .i64 t273] 30 (0, 0)) (by (with_reducible repeat (first | refine blk_drewN ?_ _ | refine blk_drew ?_ | refine blk_alloc ?_ _)); exact BK274.out) hb); have n2_ := Aside0.mk (below_step (by repeat (first | (with_reducible first | exact HB.out | apply below_alloc | apply pw_below_drewN | apply below_drew1 | refine below_set ?_ GE274.out) | exact HB.out)) hb); clear HO_3; clear BK274; clear HB; have HO_3 := n0_; have BK274 := n1_; have HB := n2_; clear n0_ n1_ n2_; (try clear hb); (try clear hb2); (try clear hk); (try clear hi)))
                go_meet
                case rel => exact ⟨_, ((t285 != 0)), (by first | rfl | (simp; done) | (simp [*]; done)), H', ⟨by have := HJ7.out; first | omega | exact Nat.le_refl _⟩, ⟨by (with_reducible repeat (first | apply Kd.R_alloc | apply Kd.R_drewN | apply Kd.R_drew)); exact HO_3.out⟩, ⟨by (with_reducible repeat (first | refine blk_drewN ?_ _ | refine blk_drew ?_ | refine blk_alloc ?_ _)); exact BK274.out⟩, ⟨by repeat (first | (with_reducible first | exact HB.out | apply below_alloc | apply pw_below_drewN | apply below_drew1 | refine below_set ?_ GE274.out) | exact HB.out)⟩⟩
          case rest =>
            clear HC39
            try clear c1
            try clear c2
            try clear p2
            try clear c3
            try clear c4
            try clear c18
            try clear c19
            try clear c19b0
            try clear c19b1
            try clear c20
            try clear c21
            try clear c21b0
            try clear c21b1
            try clear c22
            try clear c22b0
            try clear c22b1
            try clear c38
            try clear c40
            try clear c40b0
            try clear c40b1
            try clear c40b2
            try clear c41
            try clear c41b0
            try clear c41b1
            try clear p2
            obtain ⟨kq, x74_38, rfl, HA, HJ38, HO_3, BK274, HB⟩ := hcut
            cases kq with
            | zero => exact absurd HA.out (by simp [laws_FnTwins.j1])
            | succ kj38 =>
              have H := HA.out
              clear HA
              simp only [laws_FnTwins.j1] at H
              by_cases c44 : x74_38 = true
              · subst c44
                have H1 : (some true) = some r := by rw [if_pos rfl] at H; exact H
                clear H
                have H := H1
                clear H1
                obtain rfl := Option.some.inj H
                go_wp2
                go_ret
                exact ⟨by first | rfl | (simp [errW_none, errW_some] <;> rfl) | (simp [*, errW_none, errW_some] <;> rfl), by repeat (first | (with_reducible first | exact HB.out | apply below_alloc | apply pw_below_drewN | apply below_drew1 | refine below_set ?_ GE274.out) | exact HB.out)⟩
              · replace c44 := Bool.eq_false_iff.mpr c44
                subst c44
                have H1 : ((some (([] : List Int) : List Int)).bind fun y287 => (if y287.length + t266.length < 17592186044416 then ((some (y287 ++ t266 : List Int)).bind fun y290 => (if y290.length + t266.length < 17592186044416 then ((some (y290 ++ t266 : List Int)).bind fun y293 => (if ((t266.length : Int) % 2) = 1 then (laws_FnTwins.j2 kj38 t266 y293 (decide ((t266.length : Int) > 1))) else (laws_FnTwins.j2 kj38 t266 y293 false))) else (none))) else (none))) = some r := by rw [if_neg (show ¬ (false = true) by decide)] at H; exact H
                clear H
                have H := H1
                clear H1
                obtain ⟨y287, hy287⟩ : ∃ y_ : List Int, y_ = (([] : List Int)) := ⟨_, rfl⟩
                replace H : (if y287.length + t266.length < 17592186044416 then ((some (y287 ++ t266 : List Int)).bind fun y290 => (if y290.length + t266.length < 17592186044416 then ((some (y290 ++ t266 : List Int)).bind fun y293 => (if ((t266.length : Int) % 2) = 1 then (laws_FnTwins.j2 kj38 t266 y293 (decide ((t266.length : Int) > 1))) else (laws_FnTwins.j2 kj38 t266 y293 false))) else (none))) else (none)) = some r := by first | (rw [hy287]; with_reducible exact H) | (have H2_ := (Option.bind_some _ _).symm.trans H; rw [hy287]; with_reducible exact H2_) | (have H2_ := (Option.bind_some _ _).symm.trans H; with_reducible exact H2_) | with_reducible exact H | (rw [hy287]; exact H) | exact H
                have Ny287 := Aside0.mk hy287
                clear hy287
                by_cases c45 : y287.length + t266.length < 17592186044416
                · rw [if_pos c45] at H
                  have LMc45 := Aside0.mk c45
                  clear c45
                  obtain ⟨y290, hy290⟩ : ∃ y_ : List Int, y_ = (y287 ++ t266) := ⟨_, rfl⟩
                  replace H : (if y290.length + t266.length < 17592186044416 then ((some (y290 ++ t266 : List Int)).bind fun y293 => (if ((t266.length : Int) % 2) = 1 then (laws_FnTwins.j2 kj38 t266 y293 (decide ((t266.length : Int) > 1))) else (laws_FnTwins.j2 kj38 t266 y293 false))) else (none)) = some r := by first | (rw [hy290]; with_reducible exact H) | (have H2_ := (Option.bind_some _ _).symm.trans H; rw [hy290]; with_reducible exact H2_) | (have H2_ := (Option.bind_some _ _).symm.trans H; with_reducible exact H2_) | with_reducible exact H | (rw [hy290]; exact H) | exact H
                  have Ny290 := Aside0.mk hy290
                  clear hy290
                  by_cases c46 : y290.length + t266.length < 17592186044416
                  · rw [if_pos c46] at H
                    have LMc46 := Aside0.mk c46
                    clear c46
                    obtain ⟨y293, hy293⟩ : ∃ y_ : List Int, y_ = (y290 ++ t266) := ⟨_, rfl⟩
                    replace H : (if ((t266.length : Int) % 2) = 1 then (laws_FnTwins.j2 kj38 t266 y293 (decide ((t266.length : Int) > 1))) else (laws_FnTwins.j2 kj38 t266 y293 false)) = some r := by first | (rw [hy293]; with_reducible exact H) | (have H2_ := (Option.bind_some _ _).symm.trans H; rw [hy293]; with_reducible exact H2_) | (have H2_ := (Option.bind_some _ _).symm.trans H; with_reducible exact H2_) | with_reducible exact H | (rw [hy293]; exact H) | exact H
                    have Ny293 := Aside0.mk hy293
                    clear hy293
                    have HC47 := Aside0.mk H
                    clear H
                    go_upto_region 12 with (first | ((with_reducible refine gate_dst (N := 75) rfl ?_); (try (refine gate_guard (by rfl) ?_; dsimp only)); refine Kd.R_lit (Kd.int .i64) _ 2 ?hg (N := 75) ?hd (xs := ([] : List Int)) (inner := []) (ok := fun _ => True) (okp := fun _ => True) ?hr ?hp (fun _ hk => hk) trivial (Below.refl _ _) (Nat.le_refl _) (by simp) ?_; (case hd => rfl); (case hg => rfl); (case hr => first | (go_simp; done) | (go_simp; rfl)); (case hp => exact (Reps.none _ _)); intro v288 w48 ho49 hb hg_ hnew_; clear hg_ hnew_; (first | rw [← Ny287.out] at ho49 | (simp only [Int.reduceToNat] at ho49; rw [← Ny287.out] at ho49)); have n0_ := Aside0.mk (Kd.R_elder' (by (with_reducible repeat (first | apply Kd.R_alloc | apply Kd.R_drewN | apply Kd.R_drew)); exact HO_3.out) (Kd.R_base ho49) hb); have n1_ := Aside0.mk (Kd.R_lower (Kd.R_new' ho49 (Kd.R_lt (by (with_reducible repeat (first | apply Kd.R_alloc | apply Kd.R_drewN | apply Kd.R_drew)); exact HO_3.out))) (below_size (by repeat (first | (with_reducible first | exact HB.out | apply below_alloc | apply pw_below_drewN | apply below_drew1 | refine below_set ?_ GE274.out) | exact HB.out)))); have n2_ := Aside0.mk (blk_below (g := gb274) (o := .cells #[.int .i64 t272, .int .i64 t273] 30 (0, 0)) (by (with_reducible repeat (first | refine blk_drewN ?_ _ | refine blk_drew ?_ | refine blk_alloc ?_ _)); exact BK274.out) hb); have n3_ := Aside0.mk (below_step (by repeat (first | (with_reducible first | exact HB.out | apply below_alloc | apply pw_below_drewN | apply below_drew1 | refine below_set ?_ GE274.out) | exact HB.out)) hb); clear HO_3; clear BK274; clear HB; have HO_3 := n0_; have HO289 := n1_; have BK274 := n2_; have HB := n3_; clear n0_ n1_ n2_ n3_; clear hb ho49) | ((with_reducible refine gate_builtin (b := .append) (xs := #[.tmp 75, .tmp 76]) rfl ?_); (try (refine gate_guard (by rfl) ?_; dsimp only)); at_builtin; refine Kd.R_append_rows (Kd.int .i64) (w0 := w) w.heap.size rfl (.tmp 75) (.tmp 76) 24 2 (.int .i64 0) 8 rfl Try.underlying24 info2 rfl (by decide) (by omega) v288 y287 t266 _ _ _ (fun k_ => some k_ ≠ (.slice Ao10 t266.length co10 : Value).ownBlock) (fun _ => False) rfl rfl ?aO ?aR (fun _ _ h => h) (fun _ h => h.elim) ?aF ?aB ?aS ?aL ?_; (case aR => repeat (first | exact (Kd.R_reads' HO_3.out).2.2 | (with_reducible refine Kd.C_alloc ?_ _) | (with_reducible refine Kd.C_drewN ?_ _) | (with_reducible refine Kd.C_drew ?_))); (case aB => exact (by repeat (first | (with_reducible first | exact HB.out | apply below_alloc | apply pw_below_drewN | apply below_drew1 | refine below_set ?_ GE274.out) | exact HB.out))); (case aF => exact (fun k_ hk => Kd.fresh' (Kd.R_lt (by (with_reducible repeat (first | apply Kd.R_alloc | apply Kd.R_drewN | apply Kd.R_drew)); exact HO_3.out)) k_ hk)); (case aO => exact (by (with_reducible repeat (first | apply Kd.R_alloc | apply Kd.R_drewN | apply Kd.R_drew)); exact Kd.R_mono HO289.out (fun _ hk => hk.2))); (case aS => exact (below_size (by repeat (first | (with_reducible first | exact HB.out | apply below_alloc | apply pw_below_drewN | apply below_drew1 | refine below_set ?_ GE274.out) | exact HB.out)))); (case aL => have := LMc45.out; omega); intro v291 w50 ho hb hg hat; rw [← Ny290.out] at ho; have n0_ := Aside0.mk (Kd.R_after (ok := (fun _ => True)) (by (with_reducible repeat (first | apply Kd.R_alloc | apply Kd.R_drewN | apply Kd.R_drew)); exact HO_3.out) hg hat); have n1_ := Aside0.mk (blk_grown (g := gb274) (o := .cells #[.int .i64 t272, .int .i64 t273] 30 (0, 0)) (by (with_reducible repeat (first | refine blk_drewN ?_ _ | refine blk_drew ?_ | refine blk_alloc ?_ _)); exact BK274.out) hg (Kd.R_ne HO289.out BK274.out (by decide))); have n2_ := Aside0.mk (hb); have n3_ := Aside0.mk (ho); clear HO_3; clear BK274; clear HB; clear HO289; have HO_3 := n0_; have BK274 := n1_; have HB := n2_; have HO292 := n3_; clear n0_ n1_ n2_ n3_; clear ho hb hg hat) | ((with_reducible refine gate_builtin (b := .append) (xs := #[.tmp 77, .tmp 78]) rfl ?_); (try (refine gate_guard (by rfl) ?_; dsimp only)); at_builtin; refine Kd.R_append_rows (Kd.int .i64) (w0 := w) w.heap.size rfl (.tmp 77) (.tmp 78) 24 2 (.int .i64 0) 8 rfl Try.underlying24 info2 rfl (by decide) (by omega) v291 y290 t266 _ _ _ (fun k_ => some k_ ≠ (.slice Ao10 t266.length co10 : Value).ownBlock) (fun _ => False) rfl rfl ?aO ?aR (fun _ _ h => h) (fun _ h => h.elim) ?aF ?aB ?aS ?aL ?_; (case aR => repeat (first | exact (Kd.R_reads' HO_3.out).2.2 | (with_reducible refine Kd.C_alloc ?_ _) | (with_reducible refine Kd.C_drewN ?_ _) | (with_reducible refine Kd.C_drew ?_))); (case aB => exact (by repeat (first | (with_reducible first | exact HB.out | apply below_alloc | apply pw_below_drewN | apply below_drew1 | refine below_set ?_ GE274.out) | exact HB.out))); (case aF => exact (fun k_ hk => Kd.fresh' (Kd.R_lt (by (with_reducible repeat (first | apply Kd.R_alloc | apply Kd.R_drewN | apply Kd.R_drew)); exact HO_3.out)) k_ hk)); (case aO => exact (by (with_reducible repeat (first | apply Kd.R_alloc | apply Kd.R_drewN | apply Kd.R_drew)); exact HO292.out)); (case aS => exact (below_size (by repeat (first | (with_reducible first | exact HB.out | apply below_alloc | apply pw_below_drewN | apply below_drew1 | refine below_set ?_ GE274.out) | exact HB.out)))); (case aL => have := LMc46.out; omega); intro v294 w51 ho hb hg hat; rw [← Ny293.out] at ho; have n0_ := Aside0.mk (Kd.R_after (ok := (fun _ => True)) (by (with_reducible repeat (first | apply Kd.R_alloc | apply Kd.R_drewN | apply Kd.R_drew)); exact HO_3.out) hg hat); have n1_ := Aside0.mk (blk_grown (g := gb274) (o := .cells #[.int .i64 t272, .int .i64 t273] 30 (0, 0)) (by (with_reducible repeat (first | refine blk_drewN ?_ _ | refine blk_drew ?_ | refine blk_alloc ?_ _)); exact BK274.out) hg (Kd.R_ne HO292.out BK274.out (by decide))); have n2_ := Aside0.mk (hb); have n3_ := Aside0.mk (ho); clear HO_3; clear BK274; clear HB; clear HO292; have HO_3 := n0_; have BK274 := n1_; have HB := n2_; have HO295 := n3_; clear n0_ n1_ n2_ n3_; clear ho hb hg hat))
                    (try simp only [Act.put, List.setIfInBounds_toArray, List.set_cons_zero, List.set_cons_succ])
                    go_cut [88] (fun v88 wc => ∃ (kq : Nat) (x88_46 : Bool), v88 = .bool x88_46 ∧ Aside0 (laws_FnTwins.j2 kq t266 y293 x88_46 = some r) ∧ Aside0 (kq ≤ kj38) ∧ Aside0 (Kd.R (Kd.int .i64) 2 wc w.heap.size (fun k_ => some k_ ≠ (v294 : Value).ownBlock) (.slice Ao10 t266.length co10) t266) ∧ Aside0 (Kd.R (Kd.int .i64) 2 wc w.heap.size (fun k_ => some k_ ≠ ((.slice Ao10 t266.length co10) : Value).ownBlock) v294 y293) ∧ Aside0 (wc.heap[gb274]? = some (.cells #[.int .i64 t272, .int .i64 t273] 30 (0, 0))) ∧ Aside0 (Below w.heap.size w wc))
                    case first =>
                      have H := HC47.out
                      clear HC47
                      by_cases c52 : ((t266.length : Int) % 2) = 1
                      · rw [if_pos c52] at H
                        have c52b0 : (((t266.length : Int) % 2) == 1) = true := beq_iff_eq.mpr c52
                        have c52b1 : (((t266.length : Int) % 2) != 1) = false := bne_eq_false_iff_eq.mpr c52
                        clear c52
                        (first | rw [c52b0] | (simp only [i64_w, i32_w]; rw [c52b0]) | skip)
                        have H' := Aside0.mk H
                        clear H
                        go_wp2
                        go_meet
                        case rel => exact ⟨_, (decide ((t266.length : Int) > 1)), (by first | rfl | (simp; done) | (simp [*]; done)), H', ⟨by have := HJ7.out; have := HJ38.out; first | omega | exact Nat.le_refl _⟩, ⟨by (with_reducible repeat (first | apply Kd.R_alloc | apply Kd.R_drewN | apply Kd.R_drew)); exact Kd.R_mono HO_3.out (fun _ hk => hk.2)⟩, ⟨by (with_reducible repeat (first | apply Kd.R_alloc | apply Kd.R_drewN | apply Kd.R_drew)); exact HO295.out⟩, ⟨by (with_reducible repeat (first | refine blk_drewN ?_ _ | refine blk_drew ?_ | refine blk_alloc ?_ _)); exact BK274.out⟩, ⟨by repeat (first | (with_reducible first | exact HB.out | apply below_alloc | apply pw_below_drewN | apply below_drew1 | refine below_set ?_ GE274.out) | exact HB.out)⟩⟩
                      · rw [if_neg c52] at H
                        have c52b0 : (((t266.length : Int) % 2) == 1) = false := beq_eq_false_iff_ne.mpr c52
                        have c52b1 : (((t266.length : Int) % 2) != 1) = true := bne_iff_ne.mpr c52
                        (first | rw [c52b0] | (simp only [i64_w, i32_w]; rw [c52b0]) | skip)
                        have H' := Aside0.mk H
                        clear H
                        go_wp2
                        go_meet
                        case rel => exact ⟨_, (false), (by first | rfl | (simp; done) | (simp [*]; done)), H', ⟨by have := HJ7.out; have := HJ38.out; first | omega | exact Nat.le_refl _⟩, ⟨by (with_reducible repeat (first | apply Kd.R_alloc | apply Kd.R_drewN | apply Kd.R_drew)); exact Kd.R_mono HO_3.out (fun _ hk => hk.2)⟩, ⟨by (with_reducible repeat (first | apply Kd.R_alloc | apply Kd.R_drewN | apply Kd.R_drew)); exact HO295.out⟩, ⟨by (with_reducible repeat (first | refine blk_drewN ?_ _ | refine blk_drew ?_ | refine blk_alloc ?_ _)); exact BK274.out⟩, ⟨by repeat (first | (with_reducible first | exact HB.out | apply below_alloc | apply pw_below_drewN | apply below_drew1 | refine below_set ?_ GE274.out) | exact HB.out)⟩⟩
                    case rest =>
                      clear HC47
                      try clear c1
                      try clear c2
                      try clear p2
                      try clear c3
                      try clear c4
                      try clear c5
                      try clear c18
                      try clear c19
                      try clear c19b0
                      try clear c19b1
                      try clear c20
                      try clear c21
                      try clear c21b0
                      try clear c21b1
                      try clear c22
                      try clear c22b0
                      try clear c22b1
                      try clear c38
                      try clear c40
                      try clear c40b0
                      try clear c40b1
                      try clear c40b2
                      try clear c41
                      try clear c41b0
                      try clear c41b1
                      try clear c44
                      try clear c45
                      try clear c46
                      try clear c52
                      try clear c52b0
                      try clear c52b1
                      try clear p2
                      obtain ⟨kq, x88_46, rfl, HA, HJ46, HO_3, HO_8, BK274, HB⟩ := hcut
                      cases kq with
                      | zero => exact absurd HA.out (by simp [laws_FnTwins.j2])
                      | succ kj46 =>
                        have H := HA.out
                        clear HA
                        simp only [laws_FnTwins.j2] at H
                        by_cases c53 : x88_46 = true
                        · subst c53
                          have H1 : ((some (([] : List Int) : List Int)).bind fun y296 => (if y296.length + t266.length < 17592186044416 then ((some (y296 ++ t266 : List Int)).bind fun y299 => (if 0 ≤ (wrap64 ((t266.length : Int) - 1)) then (if (wrap64 ((t266.length : Int) - 1)) < (t266.length : Int) then ((some (([rd t266 (wrap64 ((t266.length : Int) - 1))] : List Int) : List Int)).bind fun y303 => (if y299.length + y303.length < 17592186044416 then ((some (y299 ++ y303 : List Int)).bind fun y306 => ((impl_HasTwin.f kj46 y306).bind fun t309 => (if t309 = true then ((impl_RootOf.f kj46 y306).bind fun bt310 => ((impl_RootOf.f kj46 t266).bind fun bt312 => (some (bt310.2 == bt312.2)))) else (none)))) else (none))) else (none)) else (none))) else (none))) = some r := by rw [if_pos rfl] at H; exact H
                          clear H
                          have H := H1
                          clear H1
                          obtain ⟨y296, hy296⟩ : ∃ y_ : List Int, y_ = (([] : List Int)) := ⟨_, rfl⟩
                          replace H : (if y296.length + t266.length < 17592186044416 then ((some (y296 ++ t266 : List Int)).bind fun y299 => (if 0 ≤ (wrap64 ((t266.length : Int) - 1)) then (if (wrap64 ((t266.length : Int) - 1)) < (t266.length : Int) then ((some (([rd t266 (wrap64 ((t266.length : Int) - 1))] : List Int) : List Int)).bind fun y303 => (if y299.length + y303.length < 17592186044416 then ((some (y299 ++ y303 : List Int)).bind fun y306 => ((impl_HasTwin.f kj46 y306).bind fun t309 => (if t309 = true then ((impl_RootOf.f kj46 y306).bind fun bt310 => ((impl_RootOf.f kj46 t266).bind fun bt312 => (some (bt310.2 == bt312.2)))) else (none)))) else (none))) else (none)) else (none))) else (none)) = some r := by first | (rw [hy296]; with_reducible exact H) | (have H2_ := (Option.bind_some _ _).symm.trans H; rw [hy296]; with_reducible exact H2_) | (have H2_ := (Option.bind_some _ _).symm.trans H; with_reducible exact H2_) | with_reducible exact H | (rw [hy296]; exact H) | exact H
                          have Ny296 := Aside0.mk hy296
                          clear hy296
                          by_cases c54 : y296.length + t266.length < 17592186044416
                          · rw [if_pos c54] at H
                            have LMc54 := Aside0.mk c54
                            clear c54
                            obtain ⟨y299, hy299⟩ : ∃ y_ : List Int, y_ = (y296 ++ t266) := ⟨_, rfl⟩
                            replace H : (if 0 ≤ (wrap64 ((t266.length : Int) - 1)) then (if (wrap64 ((t266.length : Int) - 1)) < (t266.length : Int) then ((some (([rd t266 (wrap64 ((t266.length : Int) - 1))] : List Int) : List Int)).bind fun y303 => (if y299.length + y303.length < 17592186044416 then ((some (y299 ++ y303 : List Int)).bind fun y306 => ((impl_HasTwin.f kj46 y306).bind fun t309 => (if t309 = true then ((impl_RootOf.f kj46 y306).bind fun bt310 => ((impl_RootOf.f kj46 t266).bind fun bt312 => (some (bt310.2 == bt312.2)))) else (none)))) else (none))) else (none)) else (none)) = some r := by first | (rw [hy299]; with_reducible exact H) | (have H2_ := (Option.bind_some _ _).symm.trans H; rw [hy299]; with_reducible exact H2_) | (have H2_ := (Option.bind_some _ _).symm.trans H; with_reducible exact H2_) | with_reducible exact H | (rw [hy299]; exact H) | exact H
                            have Ny299 := Aside0.mk hy299
                            clear hy299
                            obtain ⟨ji55, hji55⟩ : ∃ j_ : Int, (wrap64 ((t266.length : Int) - 1)) = j_ := ⟨_, rfl⟩
                            replace H : (if 0 ≤ (ji55) then (if (ji55) < (t266.length : Int) then ((some (([rd t266 (ji55)] : List Int) : List Int)).bind fun y303 => (if y299.length + y303.length < 17592186044416 then ((some (y299 ++ y303 : List Int)).bind fun y306 => ((impl_HasTwin.f kj46 y306).bind fun t309 => (if t309 = true then ((impl_RootOf.f kj46 y306).bind fun bt310 => ((impl_RootOf.f kj46 t266).bind fun bt312 => (some (bt310.2 == bt312.2)))) else (none)))) else (none))) else (none)) else (none)) = some r := by first | (rw [hji55] at H; exact H) | (simp only [hji55] at H ⊢; exact H)
                            have hji55w : (IntKind.i64.wrap ((t266.length : Int) - 1)) = ji55 := (i64_w _).trans hji55
                            by_cases c56 : 0 ≤ (ji55)
                            · rw [if_pos c56] at H
                              have c56b0 : decide (0 ≤ (ji55)) = true := decide_eq_true c56
                              clear c56
                              by_cases c57 : (ji55) < (t266.length : Int)
                              · rw [if_pos c57] at H
                                have c57b0 : decide ((ji55) < (t266.length : Int)) = true := decide_eq_true c57
                                clear c57
                                obtain ⟨y303, hy303⟩ : ∃ y_ : List Int, y_ = (([rd t266 (ji55)] : List Int)) := ⟨_, rfl⟩
                                replace H : (if y299.length + y303.length < 17592186044416 then ((some (y299 ++ y303 : List Int)).bind fun y306 => ((impl_HasTwin.f kj46 y306).bind fun t309 => (if t309 = true then ((impl_RootOf.f kj46 y306).bind fun bt310 => ((impl_RootOf.f kj46 t266).bind fun bt312 => (some (bt310.2 == bt312.2)))) else (none)))) else (none)) = some r := by first | (rw [hy303]; with_reducible exact H) | (have H2_ := (Option.bind_some _ _).symm.trans H; rw [hy303]; with_reducible exact H2_) | (have H2_ := (Option.bind_some _ _).symm.trans H; with_reducible exact H2_) | with_reducible exact H | (rw [hy303]; exact H) | exact H
                                have Ny303 := Aside0.mk hy303
                                clear hy303
                                by_cases c58 : y299.length + y303.length < 17592186044416
                                · rw [if_pos c58] at H
                                  have LMc58 := Aside0.mk c58
                                  clear c58
                                  obtain ⟨y306, hy306⟩ : ∃ y_ : List Int, y_ = (y299 ++ y303) := ⟨_, rfl⟩
                                  replace H : ((impl_HasTwin.f kj46 y306).bind fun t309 => (if t309 = true then ((impl_RootOf.f kj46 y306).bind fun bt310 => ((impl_RootOf.f kj46 t266).bind fun bt312 => (some (bt310.2 == bt312.2)))) else (none))) = some r := by first | (rw [hy306]; with_reducible exact H) | (have H2_ := (Option.bind_some _ _).symm.trans H; rw [hy306]; with_reducible exact H2_) | (have H2_ := (Option.bind_some _ _).symm.trans H; with_reducible exact H2_) | with_reducible exact H | (rw [hy306]; exact H) | exact H
                                  have Ny306 := Aside0.mk hy306
                                  clear hy306
                                  replace H := Option.bind_eq_some_iff.mp H
                                  obtain ⟨t309, A590, H⟩ := H
                                  replace H : (if t309 = true then ((impl_RootOf.f kj46 y306).bind fun bt310 => ((impl_RootOf.f kj46 t266).bind fun bt312 => (some (bt310.2 == bt312.2)))) else (none)) = some r := H
                                  have A59 := Aside0.mk A590
                                  clear A590
                                  by_cases c60 : t309 = true
                                  · subst c60
                                    have H1 : ((impl_RootOf.f kj46 y306).bind fun bt310 => ((impl_RootOf.f kj46 t266).bind fun bt312 => (some (bt310.2 == bt312.2)))) = some r := by rw [if_pos rfl] at H; exact H
                                    clear H
                                    have H := H1
                                    clear H1
                                    replace H := Option.bind_eq_some_iff.mp H
                                    obtain ⟨⟨t310, t311⟩, A610, H⟩ := H
                                    replace H : ((impl_RootOf.f kj46 t266).bind fun bt312 => (some (t311 == bt312.2))) = some r := H
                                    have A61 := Aside0.mk A610
                                    clear A610
                                    replace H := Option.bind_eq_some_iff.mp H
                                    obtain ⟨⟨t312, t313⟩, A620, H⟩ := H
                                    replace H : (some (t311 == t313)) = some r := H
                                    have A62 := Aside0.mk A620
                                    clear A620
                                    obtain rfl := Option.some.inj H
                                    try go_wp2
                                    have n0_ := Aside0.mk (Kd.R_drew HO_3.out)
                                    have n1_ := Aside0.mk (Kd.R_drew HO_8.out)
                                    have n2_ := Aside0.mk (blk_drew BK274.out)
                                    have n3_ := Aside0.mk (below_drew1 HB.out)
                                    clear HO_3
                                    clear HO_8
                                    clear BK274
                                    clear HB
                                    have HO_3 := n0_
                                    have HO_8 := n1_
                                    have BK274 := n2_
                                    have HB := n3_
                                    clear n0_ n1_ n2_ n3_
                                    have p302 : 0 ≤ ((ji55) : Int) := of_decide_eq_true (by first | (with_reducible assumption) | assumption)
                                    have q302 : (ji55) < (t266.length : Int) := of_decide_eq_true (by first | (with_reducible assumption) | assumption)
                                    obtain ⟨ad302, e302, hx302_0⟩ := Kd.at_int (Kd.R_reads' HO_3.out).2.2 (ji55) p302 q302
                                    cases e302
                                    replace p302 := eq_true p302
                                    replace q302 := eq_true q302
                                    refine start_ (n := 12) (S := fun w' => w'.cell? (ad302.add ((ji55)).toNat) = some (.int .i64 (rd t266 (ji55)))) (ds := []) #[false, false, false, false, false, false, false, false, false, false, false, false] (by kernel_rfl) rfl rfl (hx302_0) (fun hHeld => ?_); refine with_tabW laws_FnTwins.tab13 laws_FnTwins.bits13 (fun HT_ HW_ => ?_)
                                    generalize wc.drew = w63 at HO_3 HO_8 BK274 HB hx302_0 hHeld ⊢
                                    refine pure_ (i := 1) (N := some 90) (v := ?_) (a' := ?_) #[false, true, false, false, false, false, false, false, false, false, false, false] rfl rfl (any_of HT_.out (by kernel_rfl)) (fun _ _ _ h => h) (Or.inl ⟨by rfl, ?_⟩) ?_ ?_
                                    rotate_left
                                    · intro w'
                                      go_simp
                                      with_reducible rfl
                                    rotate_left
                                    · simp only [Act.put, List.setIfInBounds_toArray, List.set_cons_zero, List.set_cons_succ, i64_w, i32_w]
                                      rfl
                                    refine pure_ (i := 3) (N := some 92) (v := ?_) (a' := ?_) #[false, true, false, true, false, false, false, false, false, false, false, false] rfl rfl (any_of HT_.out (by kernel_rfl)) (fun _ _ _ h => h) (Or.inl ⟨by rfl, ?_⟩) ?_ ?_
                                    rotate_left
                                    · intro w'
                                      go_simp
                                      with_reducible rfl
                                    rotate_left
                                    · simp only [Act.put, List.setIfInBounds_toArray, List.set_cons_zero, List.set_cons_succ, i64_w, i32_w]
                                      rfl
                                    refine pure_ (i := 4) (N := some 93) (v := ?_) (a' := ?_) #[false, true, false, true, true, false, false, false, false, false, false, false] rfl rfl (any_of HT_.out (by kernel_rfl)) (fun _ _ _ h => h) (Or.inl ⟨by rfl, ?_⟩) ?_ ?_
                                    rotate_left
                                    · intro w'
                                      go_simp
                                      with_reducible rfl
                                    rotate_left
                                    · simp only [Act.put, List.setIfInBounds_toArray, List.set_cons_zero, List.set_cons_succ, i64_w, i32_w]
                                      rfl
                                    refine pure_ (i := 5) (N := some 94) (v := ?_) (a' := ?_) #[false, true, false, true, true, true, false, false, false, false, false, false] rfl rfl (any_of HT_.out (by kernel_rfl)) (fun _ _ _ h => h) (Or.inl ⟨by rfl, ?_⟩) ?_ ?_
                                    rotate_left
                                    · intro w'
                                      go_simp
                                      with_reducible rfl
                                    rotate_left
                                    · simp only [Act.put, List.setIfInBounds_toArray, List.set_cons_zero, List.set_cons_succ, i64_w, i32_w]
                                      rfl
                                    refine pure_ (i := 6) (N := some 95) (v := ?_) (a' := ?_) #[false, true, false, true, true, true, true, false, false, false, false, false] rfl rfl (any_of HT_.out (by kernel_rfl)) (fun _ _ _ h => h) (Or.inl ⟨by rfl, ?_⟩) ?_ ?_
                                    rotate_left
                                    · intro w'
                                      go_simp
                                      with_reducible rfl
                                    rotate_left
                                    · simp only [Act.put, List.setIfInBounds_toArray, List.set_cons_zero, List.set_cons_succ, i64_w, i32_w]
                                      rfl
                                    refine pure_ (i := 7) (N := some 96) (v := ?_) (a' := ?_) #[false, true, false, true, true, true, true, true, false, false, false, false] rfl rfl (any_of HT_.out (by kernel_rfl)) (fun _ _ _ h => h) (Or.inl ⟨by rfl, ?_⟩) ?_ ?_
                                    rotate_left
                                    · intro w'
                                      go_simp
                                      with_reducible rfl
                                    rotate_left
                                    · simp only [Act.put, List.setIfInBounds_toArray, List.set_cons_zero, List.set_cons_succ, i64_w, i32_w]
                                      rfl
                                    refine take_ (i := 8) (N := some 97) (v := ?_) (a' := ?_) #[false, true, false, true, true, true, true, true, true, false, false, false] rfl rfl (take_ofW HT_.out HW_.out (by kernel_rfl)) (fun _ _ _ h => h) (Or.inl ⟨by rfl, ?_⟩) hHeld ?_ ?_
                                    rotate_left
                                    · intro w' s0
                                      go_simp
                                      with_reducible rfl
                                    rotate_left
                                    · simp only [Act.put, List.setIfInBounds_toArray, List.set_cons_zero, List.set_cons_succ, i64_w, i32_w]
                                      rfl
                                    refine join_ (σ := Value × Value × Value) 2 #[true, true, true, true, true, true, true, true, true, true, false, false] (fun s_ => [(89, s_.1), (91, s_.2.1), (98, s_.2.2)]) (fun s_ w' => (w'.cell? (ad302.add ((ji55)).toNat) = some (.int .i64 (rd t266 (ji55)))) ∧ (Kd.R (Kd.int .i64) 2 w' w.heap.size (fun k_ => some k_ ≠ (s_.2.2 : Value).ownBlock ∧ some k_ ≠ (.slice (some ad302) t266.length co10 : Value).ownBlock ∧ some k_ ≠ (v294 : Value).ownBlock) s_.2.1 y299) ∧ (Kd.R (Kd.int .i64) 2 w' w.heap.size (fun k_ => some k_ ≠ (s_.2.1 : Value).ownBlock ∧ some k_ ≠ (.slice (some ad302) t266.length co10 : Value).ownBlock ∧ some k_ ≠ (v294 : Value).ownBlock) s_.2.2 y303) ∧ (Kd.R (Kd.int .i64) 2 w' w.heap.size (fun k_ => some k_ ≠ (s_.2.1 : Value).ownBlock ∧ some k_ ≠ (s_.2.2 : Value).ownBlock ∧ some k_ ≠ (v294 : Value).ownBlock) (.slice (some ad302) t266.length co10) t266) ∧ (Kd.R (Kd.int .i64) 2 w' w.heap.size (fun k_ => some k_ ≠ (s_.2.1 : Value).ownBlock ∧ some k_ ≠ (s_.2.2 : Value).ownBlock ∧ some k_ ≠ (.slice (some ad302) t266.length co10 : Value).ownBlock) v294 y293) ∧ (w'.heap[gb274]? = some (.cells #[.int .i64 t272, .int .i64 t273] 30 (0, 0))) ∧ (Below w.heap.size w w')) ?_ ?_
                                    rotate_left
                                    · intro hCont
                                      refine two_ (i := 0) (j := 9) (Ni := some 89) (Nj := some 98) #[true, true, false, true, true, true, true, true, true, false, false, false] #[false, true, false, true, true, true, true, true, true, true, false, false] rfl rfl rfl rfl (two_of HT_.out (by kernel_rfl)) (by decide) (by decide) (fun K hK => ?_) (fun K hK => ?_)
                                      · skip
                                        refine Kd.R_lit_step (Kd.int .i64) _ 2 ?hg (N := 89) ?hd (xs := ([] : List Int)) (inner := []) (ok := fun _ => True) (okp := fun _ => True) ?hr ?hp (fun _ hk => hk) trivial (Below.refl _ _) (Nat.le_refl _) (by simp) ?_; (case hd => rfl); (case hg => rfl); (case hr => first | (go_simp; done) | (go_simp; rfl)); (case hp => exact (Reps.none _ _))
                                        intro v297 w64 ho65 hb hg_ hnew_
                                        have HS0_ := (hb.cell (World.block_lt_of_cell? _ _ (hHeld))).trans (hHeld)
                                        clear hg_ hnew_
                                        (first | rw [← Ny296.out] at ho65 | (simp only [Int.reduceToNat] at ho65; rw [← Ny296.out] at ho65))
                                        have n0_ := Aside0.mk (Kd.R_elder' (by (with_reducible repeat (first | apply Kd.R_alloc | apply Kd.R_drewN | apply Kd.R_drew)); exact HO_3.out) (Kd.R_base ho65) hb)
                                        have n1_ := Aside0.mk (Kd.R_elder' (by (with_reducible repeat (first | apply Kd.R_alloc | apply Kd.R_drewN | apply Kd.R_drew)); exact HO_8.out) (Kd.R_base ho65) hb)
                                        have n2_ := Aside0.mk (Kd.R_lower (Kd.R_new' (Kd.R_new' ho65 (Kd.R_lt (by (with_reducible repeat (first | apply Kd.R_alloc | apply Kd.R_drewN | apply Kd.R_drew)); exact HO_3.out))) (Kd.R_lt (by (with_reducible repeat (first | apply Kd.R_alloc | apply Kd.R_drewN | apply Kd.R_drew)); exact HO_8.out))) (below_size (by repeat (first | (with_reducible first | exact HB.out | apply below_alloc | apply pw_below_drewN | apply below_drew1 | refine below_set ?_ GE274.out) | exact HB.out))))
                                        have n3_ := Aside0.mk (blk_below (g := gb274) (o := .cells #[.int .i64 t272, .int .i64 t273] 30 (0, 0)) (by (with_reducible repeat (first | refine blk_drewN ?_ _ | refine blk_drew ?_ | refine blk_alloc ?_ _)); exact BK274.out) hb)
                                        have n4_ := Aside0.mk (below_step (by repeat (first | (with_reducible first | exact HB.out | apply below_alloc | apply pw_below_drewN | apply below_drew1 | refine below_set ?_ GE274.out) | exact HB.out)) hb)
                                        clear HO_3
                                        clear HO_8
                                        clear BK274
                                        clear HB
                                        have HO_3 := n0_
                                        have HO_8 := n1_
                                        have HO298 := n2_
                                        have BK274 := n3_
                                        have HB := n4_
                                        clear n0_ n1_ n2_ n3_ n4_
                                        clear hb ho65
                                        refine hK.out _ _ (HS0_) (fun hHeld => ?_)
                                        clear hK K
                                        refine norm_ (a' := ?_) ?_ ?_
                                        rotate_left
                                        · show Act.put _ (some 89) _ = _
                                          simp only [Act.put, List.setIfInBounds_toArray, List.set_cons_zero, List.set_cons_succ, i64_w, i32_w]
                                          rfl
                                        refine two_ (i := 2) (j := 9) (Ni := some 91) (Nj := some 98) #[true, true, true, true, true, true, true, true, true, false, false, false] #[true, true, false, true, true, true, true, true, true, true, false, false] rfl rfl rfl rfl (two_of HT_.out (by kernel_rfl)) (by decide) (by decide) (fun K hK => ?_) (fun K hK => ?_)
                                        · skip
                                          refine Kd.R_append_rows_step (Kd.int .i64) (w0 := w) w.heap.size (by rfl) (.tmp 89) (.tmp 90) 24 2 (.int .i64 0) 8 rfl Try.underlying24 info2 rfl (by decide) (by omega) v297 y296 t266 _ _ _ (fun k_ => some k_ ≠ (.slice (some ad302) t266.length co10 : Value).ownBlock ∧ some k_ ≠ (v294 : Value).ownBlock) (fun _ => False) rfl rfl ?aO ?aR (fun _ _ h => h) (fun _ h => h.elim) ?aF ?aB ?aS ?aL ?_
                                          (case aR => repeat (first | exact (Kd.R_reads' HO_3.out).2.2 | (with_reducible refine Kd.C_alloc ?_ _) | (with_reducible refine Kd.C_drewN ?_ _) | (with_reducible refine Kd.C_drew ?_)))
                                          (case aB => exact (by repeat (first | (with_reducible first | exact HB.out | apply below_alloc | apply pw_below_drewN | apply below_drew1 | refine below_set ?_ GE274.out) | exact HB.out)))
                                          (case aF => exact (fun k_ hk => ⟨Kd.fresh' (Kd.R_lt (by (with_reducible repeat (first | apply Kd.R_alloc | apply Kd.R_drewN | apply Kd.R_drew)); exact HO_3.out)) k_ hk, Kd.fresh' (Kd.R_lt (by (with_reducible repeat (first | apply Kd.R_alloc | apply Kd.R_drewN | apply Kd.R_drew)); exact HO_8.out)) k_ hk⟩))
                                          (case aO => exact (by (with_reducible repeat (first | apply Kd.R_alloc | apply Kd.R_drewN | apply Kd.R_drew)); exact Kd.R_mono HO298.out (fun _ hk => ⟨hk.1.2, hk.2⟩)))
                                          (case aS => exact (below_size (by repeat (first | (with_reducible first | exact HB.out | apply below_alloc | apply pw_below_drewN | apply below_drew1 | refine below_set ?_ GE274.out) | exact HB.out))))
                                          (case aL => have := LMc54.out; omega)
                                          intro v300 w66 ho hb hg hat
                                          (first | have HS0_ := cell_grown hg (hHeld) (by first | (rw [add_block]; exact (fun e_ => by have h_ := HO298.out.1 _ e_.symm; first | exact h_ rfl | exact h_.1 rfl | exact h_.2 rfl | exact h_.1.1 rfl | exact h_.1.2 rfl | exact h_.2.1 rfl | exact h_.2.2 rfl | exact h_.1.1.1 rfl | exact h_.1.1.2 rfl | exact h_.1.2.1 rfl | exact h_.1.2.2 rfl | exact h_.2.1.1 rfl | exact h_.2.1.2 rfl | exact h_.2.2.1 rfl | exact h_.2.2.2 rfl | exact h_.1.1.1.1 rfl | exact h_.1.1.1.2 rfl | exact h_.1.1.2.1 rfl | exact h_.1.1.2.2 rfl | exact h_.1.2.1.1 rfl | exact h_.1.2.1.2 rfl | exact h_.1.2.2.1 rfl | exact h_.1.2.2.2 rfl | exact h_.2.1.1.1 rfl | exact h_.2.1.1.2 rfl | exact h_.2.1.2.1 rfl | exact h_.2.1.2.2 rfl | exact h_.2.2.1.1 rfl | exact h_.2.2.1.2 rfl | exact h_.2.2.2.1 rfl | exact h_.2.2.2.2 rfl)) | (show some (Addr.add _ _).block ≠ _; rw [add_block]; exact (fun e_ => by have h_ := HO298.out.1 _ e_.symm; first | exact h_ rfl | exact h_.1 rfl | exact h_.2 rfl | exact h_.1.1 rfl | exact h_.1.2 rfl | exact h_.2.1 rfl | exact h_.2.2 rfl | exact h_.1.1.1 rfl | exact h_.1.1.2 rfl | exact h_.1.2.1 rfl | exact h_.1.2.2 rfl | exact h_.2.1.1 rfl | exact h_.2.1.2 rfl | exact h_.2.2.1 rfl | exact h_.2.2.2 rfl | exact h_.1.1.1.1 rfl | exact h_.1.1.1.2 rfl | exact h_.1.1.2.1 rfl | exact h_.1.1.2.2 rfl | exact h_.1.2.1.1 rfl | exact h_.1.2.1.2 rfl | exact h_.1.2.2.1 rfl | exact h_.1.2.2.2 rfl | exact h_.2.1.1.1 rfl | exact h_.2.1.1.2 rfl | exact h_.2.1.2.1 rfl | exact h_.2.1.2.2 rfl | exact h_.2.2.1.1 rfl | exact h_.2.2.1.2 rfl | exact h_.2.2.2.1 rfl | exact h_.2.2.2.2 rfl)) | exact (fun e_ => by have h_ := HO298.out.1 _ e_.symm; first | exact h_ rfl | exact h_.1 rfl | exact h_.2 rfl | exact h_.1.1 rfl | exact h_.1.2 rfl | exact h_.2.1 rfl | exact h_.2.2 rfl | exact h_.1.1.1 rfl | exact h_.1.1.2 rfl | exact h_.1.2.1 rfl | exact h_.1.2.2 rfl | exact h_.2.1.1 rfl | exact h_.2.1.2 rfl | exact h_.2.2.1 rfl | exact h_.2.2.2 rfl | exact h_.1.1.1.1 rfl | exact h_.1.1.1.2 rfl | exact h_.1.1.2.1 rfl | exact h_.1.1.2.2 rfl | exact h_.1.2.1.1 rfl | exact h_.1.2.1.2 rfl | exact h_.1.2.2.1 rfl | exact h_.1.2.2.2 rfl | exact h_.2.1.1.1 rfl | exact h_.2.1.1.2 rfl | exact h_.2.1.2.1 rfl | exact h_.2.1.2.2 rfl | exact h_.2.2.1.1 rfl | exact h_.2.2.1.2 rfl | exact h_.2.2.2.1 rfl | exact h_.2.2.2.2 rfl)) | have HS0_ := cell_grown hg (cell_unalloc (hHeld) (by first | (rw [add_block]; exact Kd.R_lt HO_3.out _ rfl) | (show (Addr.add _ _).block < _; rw [add_block]; exact Kd.R_lt HO_3.out _ rfl) | exact Kd.R_lt HO_3.out _ rfl)) (by first | (rw [add_block]; exact (fun e_ => by have h_ := HO298.out.1 _ e_.symm; first | exact h_ rfl | exact h_.1 rfl | exact h_.2 rfl | exact h_.1.1 rfl | exact h_.1.2 rfl | exact h_.2.1 rfl | exact h_.2.2 rfl | exact h_.1.1.1 rfl | exact h_.1.1.2 rfl | exact h_.1.2.1 rfl | exact h_.1.2.2 rfl | exact h_.2.1.1 rfl | exact h_.2.1.2 rfl | exact h_.2.2.1 rfl | exact h_.2.2.2 rfl | exact h_.1.1.1.1 rfl | exact h_.1.1.1.2 rfl | exact h_.1.1.2.1 rfl | exact h_.1.1.2.2 rfl | exact h_.1.2.1.1 rfl | exact h_.1.2.1.2 rfl | exact h_.1.2.2.1 rfl | exact h_.1.2.2.2 rfl | exact h_.2.1.1.1 rfl | exact h_.2.1.1.2 rfl | exact h_.2.1.2.1 rfl | exact h_.2.1.2.2 rfl | exact h_.2.2.1.1 rfl | exact h_.2.2.1.2 rfl | exact h_.2.2.2.1 rfl | exact h_.2.2.2.2 rfl)) | (show some (Addr.add _ _).block ≠ _; rw [add_block]; exact (fun e_ => by have h_ := HO298.out.1 _ e_.symm; first | exact h_ rfl | exact h_.1 rfl | exact h_.2 rfl | exact h_.1.1 rfl | exact h_.1.2 rfl | exact h_.2.1 rfl | exact h_.2.2 rfl | exact h_.1.1.1 rfl | exact h_.1.1.2 rfl | exact h_.1.2.1 rfl | exact h_.1.2.2 rfl | exact h_.2.1.1 rfl | exact h_.2.1.2 rfl | exact h_.2.2.1 rfl | exact h_.2.2.2 rfl | exact h_.1.1.1.1 rfl | exact h_.1.1.1.2 rfl | exact h_.1.1.2.1 rfl | exact h_.1.1.2.2 rfl | exact h_.1.2.1.1 rfl | exact h_.1.2.1.2 rfl | exact h_.1.2.2.1 rfl | exact h_.1.2.2.2 rfl | exact h_.2.1.1.1 rfl | exact h_.2.1.1.2 rfl | exact h_.2.1.2.1 rfl | exact h_.2.1.2.2 rfl | exact h_.2.2.1.1 rfl | exact h_.2.2.1.2 rfl | exact h_.2.2.2.1 rfl | exact h_.2.2.2.2 rfl)) | exact (fun e_ => by have h_ := HO298.out.1 _ e_.symm; first | exact h_ rfl | exact h_.1 rfl | exact h_.2 rfl | exact h_.1.1 rfl | exact h_.1.2 rfl | exact h_.2.1 rfl | exact h_.2.2 rfl | exact h_.1.1.1 rfl | exact h_.1.1.2 rfl | exact h_.1.2.1 rfl | exact h_.1.2.2 rfl | exact h_.2.1.1 rfl | exact h_.2.1.2 rfl | exact h_.2.2.1 rfl | exact h_.2.2.2 rfl | exact h_.1.1.1.1 rfl | exact h_.1.1.1.2 rfl | exact h_.1.1.2.1 rfl | exact h_.1.1.2.2 rfl | exact h_.1.2.1.1 rfl | exact h_.1.2.1.2 rfl | exact h_.1.2.2.1 rfl | exact h_.1.2.2.2 rfl | exact h_.2.1.1.1 rfl | exact h_.2.1.1.2 rfl | exact h_.2.1.2.1 rfl | exact h_.2.1.2.2 rfl | exact h_.2.2.1.1 rfl | exact h_.2.2.1.2 rfl | exact h_.2.2.2.1 rfl | exact h_.2.2.2.2 rfl)))
                                          rw [← Ny299.out] at ho
                                          have n0_ := Aside0.mk (Kd.R_after (ok := (fun k_ => some k_ ≠ (v294 : Value).ownBlock)) (by (with_reducible repeat (first | apply Kd.R_alloc | apply Kd.R_drewN | apply Kd.R_drew)); exact HO_3.out) hg hat)
                                          have n1_ := Aside0.mk (Kd.R_after (ok := (fun k_ => some k_ ≠ (.slice (some ad302) t266.length co10 : Value).ownBlock)) (by (with_reducible repeat (first | apply Kd.R_alloc | apply Kd.R_drewN | apply Kd.R_drew)); exact HO_8.out) hg hat)
                                          have n2_ := Aside0.mk (blk_grown (g := gb274) (o := .cells #[.int .i64 t272, .int .i64 t273] 30 (0, 0)) (by (with_reducible repeat (first | refine blk_drewN ?_ _ | refine blk_drew ?_ | refine blk_alloc ?_ _)); exact BK274.out) hg (Kd.R_ne HO298.out BK274.out (by decide)))
                                          have n3_ := Aside0.mk (hb)
                                          have n4_ := Aside0.mk (ho)
                                          clear HO_3
                                          clear HO_8
                                          clear BK274
                                          clear HB
                                          clear HO298
                                          have HO_3 := n0_
                                          have HO_8 := n1_
                                          have BK274 := n2_
                                          have HB := n3_
                                          have HO301 := n4_
                                          clear n0_ n1_ n2_ n3_ n4_
                                          clear ho hb hg hat
                                          refine hK.out _ _ (HS0_) (fun hHeld => ?_)
                                          clear hK K
                                          refine norm_ (a' := ?_) ?_ ?_
                                          rotate_left
                                          · show Act.put _ (some 91) _ = _
                                            simp only [Act.put, List.setIfInBounds_toArray, List.set_cons_zero, List.set_cons_succ, i64_w, i32_w]
                                            rfl
                                          refine one_ (i := 9) (N := some 98) #[true, true, true, true, true, true, true, true, true, true, false, false] rfl rfl (one_of HT_.out (by kernel_rfl)) (by decide) (fun K hK => ?_)
                                          refine Kd.R_lit_step (Kd.int .i64) _ 2 ?hg (N := 98) ?hd (xs := ([rd t266 (ji55)] : List Int)) (inner := [.int .i64 (rd t266 (ji55))]) (ok := fun _ => True) (okp := fun _ => True) ?hr ?hp (fun _ hk => hk) trivial (Below.refl _ _) (Nat.le_refl _) (by simp) ?_; (case hd => rfl); (case hg => rfl); (case hr => first | (go_simp; done) | (go_simp; rfl)); (case hp => exact (Reps.one (show Kd.M (Kd.int .i64) _ _ _ (rd t266 (ji55)) [.int .i64 (rd t266 (ji55))] from rfl) (Reps.none _ _)))
                                          intro v304 w67 ho68 hb hg_ hnew_
                                          have HS0_ := (hb.cell (World.block_lt_of_cell? _ _ (hHeld))).trans (hHeld)
                                          clear hg_ hnew_
                                          (first | rw [← Ny303.out] at ho68 | (simp only [Int.reduceToNat] at ho68; rw [← Ny303.out] at ho68))
                                          have n0_ := Aside0.mk (Kd.R_elder' (by (with_reducible repeat (first | apply Kd.R_alloc | apply Kd.R_drewN | apply Kd.R_drew)); exact HO_3.out) (Kd.R_base ho68) hb)
                                          have n1_ := Aside0.mk (Kd.R_elder' (by (with_reducible repeat (first | apply Kd.R_alloc | apply Kd.R_drewN | apply Kd.R_drew)); exact HO_8.out) (Kd.R_base ho68) hb)
                                          have n2_ := Aside0.mk (Kd.R_elder' (by (with_reducible repeat (first | apply Kd.R_alloc | apply Kd.R_drewN | apply Kd.R_drew)); exact HO301.out) (Kd.R_base ho68) hb)
                                          have n3_ := Aside0.mk (Kd.R_lower (Kd.R_new' (Kd.R_new' (Kd.R_new' ho68 (Kd.R_lt (by (with_reducible repeat (first | apply Kd.R_alloc | apply Kd.R_drewN | apply Kd.R_drew)); exact HO_3.out))) (Kd.R_lt (by (with_reducible repeat (first | apply Kd.R_alloc | apply Kd.R_drewN | apply Kd.R_drew)); exact HO_8.out))) (Kd.R_lt (by (with_reducible repeat (first | apply Kd.R_alloc | apply Kd.R_drewN | apply Kd.R_drew)); exact HO301.out))) (below_size (by repeat (first | (with_reducible first | exact HB.out | apply below_alloc | apply pw_below_drewN | apply below_drew1 | refine below_set ?_ GE274.out) | exact HB.out))))
                                          have n4_ := Aside0.mk (blk_below (g := gb274) (o := .cells #[.int .i64 t272, .int .i64 t273] 30 (0, 0)) (by (with_reducible repeat (first | refine blk_drewN ?_ _ | refine blk_drew ?_ | refine blk_alloc ?_ _)); exact BK274.out) hb)
                                          have n5_ := Aside0.mk (below_step (by repeat (first | (with_reducible first | exact HB.out | apply below_alloc | apply pw_below_drewN | apply below_drew1 | refine below_set ?_ GE274.out) | exact HB.out)) hb)
                                          clear HO_3
                                          clear HO_8
                                          clear HO301
                                          clear BK274
                                          clear HB
                                          have HO_3 := n0_
                                          have HO_8 := n1_
                                          have HO301 := n2_
                                          have HO305 := n3_
                                          have BK274 := n4_
                                          have HB := n5_
                                          clear n0_ n1_ n2_ n3_ n4_ n5_
                                          clear hb ho68
                                          refine hK.out _ _ (HS0_) (fun hHeld => ?_)
                                          clear hK K
                                          refine norm_ (a' := ?_) ?_ ?_
                                          rotate_left
                                          · show Act.put _ (some 98) _ = _
                                            simp only [Act.put, List.setIfInBounds_toArray, List.set_cons_zero, List.set_cons_succ, i64_w, i32_w]
                                            rfl
                                          exact norm_ (by simp only [putAll, Act.put, List.setIfInBounds_toArray, List.set_cons_zero, List.set_cons_succ]) (hCont (v297, v300, v304) _ ⟨hHeld, (by (with_reducible repeat (first | apply Kd.R_alloc | apply Kd.R_drewN | apply Kd.R_drew)); exact Kd.R_mono HO301.out (fun _ hk => ⟨hk.2, ⟨hk.1.1, hk.1.2⟩⟩)), (by (with_reducible repeat (first | apply Kd.R_alloc | apply Kd.R_drewN | apply Kd.R_drew)); exact Kd.R_mono HO305.out (fun _ hk => ⟨hk.2, ⟨hk.1.1.2, hk.1.2⟩⟩)), (by (with_reducible repeat (first | apply Kd.R_alloc | apply Kd.R_drewN | apply Kd.R_drew)); exact Kd.R_mono HO_3.out (fun _ hk => ⟨hk.1.2, ⟨hk.2, hk.1.1⟩⟩)), (by (with_reducible repeat (first | apply Kd.R_alloc | apply Kd.R_drewN | apply Kd.R_drew)); exact Kd.R_mono HO_8.out (fun _ hk => ⟨hk.1.2, ⟨hk.2, hk.1.1⟩⟩)), (by (with_reducible repeat (first | refine blk_drewN ?_ _ | refine blk_drew ?_ | refine blk_alloc ?_ _)); exact BK274.out), (by repeat (first | (with_reducible first | exact HB.out | apply below_alloc | apply pw_below_drewN | apply below_drew1 | refine below_set ?_ GE274.out) | exact HB.out))⟩)
                                        · skip
                                          refine Kd.R_lit_step (Kd.int .i64) _ 2 ?hg (N := 98) ?hd (xs := ([rd t266 (ji55)] : List Int)) (inner := [.int .i64 (rd t266 (ji55))]) (ok := fun _ => True) (okp := fun _ => True) ?hr ?hp (fun _ hk => hk) trivial (Below.refl _ _) (Nat.le_refl _) (by simp) ?_; (case hd => rfl); (case hg => rfl); (case hr => first | (go_simp; done) | (go_simp; rfl)); (case hp => exact (Reps.one (show Kd.M (Kd.int .i64) _ _ _ (rd t266 (ji55)) [.int .i64 (rd t266 (ji55))] from rfl) (Reps.none _ _)))
                                          intro v304 w66 ho67 hb hg_ hnew_
                                          have HS0_ := (hb.cell (World.block_lt_of_cell? _ _ (hHeld))).trans (hHeld)
                                          clear hg_ hnew_
                                          (first | rw [← Ny303.out] at ho67 | (simp only [Int.reduceToNat] at ho67; rw [← Ny303.out] at ho67))
                                          have n0_ := Aside0.mk (Kd.R_elder' (by (with_reducible repeat (first | apply Kd.R_alloc | apply Kd.R_drewN | apply Kd.R_drew)); exact HO_3.out) (Kd.R_base ho67) hb)
                                          have n1_ := Aside0.mk (Kd.R_elder' (by (with_reducible repeat (first | apply Kd.R_alloc | apply Kd.R_drewN | apply Kd.R_drew)); exact HO_8.out) (Kd.R_base ho67) hb)
                                          have n2_ := Aside0.mk (Kd.R_elder' (by (with_reducible repeat (first | apply Kd.R_alloc | apply Kd.R_drewN | apply Kd.R_drew)); exact HO298.out) (Kd.R_base ho67) hb)
                                          have n3_ := Aside0.mk (Kd.R_lower (Kd.R_new' (Kd.R_new' (Kd.R_new' ho67 (Kd.R_lt (by (with_reducible repeat (first | apply Kd.R_alloc | apply Kd.R_drewN | apply Kd.R_drew)); exact HO_3.out))) (Kd.R_lt (by (with_reducible repeat (first | apply Kd.R_alloc | apply Kd.R_drewN | apply Kd.R_drew)); exact HO_8.out))) (Kd.R_lt (by (with_reducible repeat (first | apply Kd.R_alloc | apply Kd.R_drewN | apply Kd.R_drew)); exact HO298.out))) (below_size (by repeat (first | (with_reducible first | exact HB.out | apply below_alloc | apply pw_below_drewN | apply below_drew1 | refine below_set ?_ GE274.out) | exact HB.out))))
                                          have n4_ := Aside0.mk (blk_below (g := gb274) (o := .cells #[.int .i64 t272, .int .i64 t273] 30 (0, 0)) (by (with_reducible repeat (first | refine blk_drewN ?_ _ | refine blk_drew ?_ | refine blk_alloc ?_ _)); exact BK274.out) hb)
                                          have n5_ := Aside0.mk (below_step (by repeat (first | (with_reducible first | exact HB.out | apply below_alloc | apply pw_below_drewN | apply below_drew1 | refine below_set ?_ GE274.out) | exact HB.out)) hb)
                                          clear HO_3
                                          clear HO_8
                                          clear HO298
                                          clear BK274
                                          clear HB
                                          have HO_3 := n0_
                                          have HO_8 := n1_
                                          have HO298 := n2_
                                          have HO305 := n3_
                                          have BK274 := n4_
                                          have HB := n5_
                                          clear n0_ n1_ n2_ n3_ n4_ n5_
                                          clear hb ho67
                                          refine hK.out _ _ (HS0_) (fun hHeld => ?_)
                                          clear hK K
                                          refine norm_ (a' := ?_) ?_ ?_
                                          rotate_left
                                          · show Act.put _ (some 98) _ = _
                                            simp only [Act.put, List.setIfInBounds_toArray, List.set_cons_zero, List.set_cons_succ, i64_w, i32_w]
                                            rfl
                                          refine one_ (i := 2) (N := some 91) #[true, true, true, true, true, true, true, true, true, true, false, false] rfl rfl (one_of HT_.out (by kernel_rfl)) (by decide) (fun K hK => ?_)
                                          refine Kd.R_append_rows_step (Kd.int .i64) (w0 := w) w.heap.size (by rfl) (.tmp 89) (.tmp 90) 24 2 (.int .i64 0) 8 rfl Try.underlying24 info2 rfl (by decide) (by omega) v297 y296 t266 _ _ _ (fun k_ => some k_ ≠ (.slice (some ad302) t266.length co10 : Value).ownBlock ∧ some k_ ≠ (v294 : Value).ownBlock ∧ some k_ ≠ (v304 : Value).ownBlock) (fun _ => False) rfl rfl ?aO ?aR (fun _ _ h => h) (fun _ h => h.elim) ?aF ?aB ?aS ?aL ?_
                                          (case aR => repeat (first | exact (Kd.R_reads' HO_3.out).2.2 | (with_reducible refine Kd.C_alloc ?_ _) | (with_reducible refine Kd.C_drewN ?_ _) | (with_reducible refine Kd.C_drew ?_)))
                                          (case aB => exact (by repeat (first | (with_reducible first | exact HB.out | apply below_alloc | apply pw_below_drewN | apply below_drew1 | refine below_set ?_ GE274.out) | exact HB.out)))
                                          (case aF => exact (fun k_ hk => ⟨Kd.fresh' (Kd.R_lt (by (with_reducible repeat (first | apply Kd.R_alloc | apply Kd.R_drewN | apply Kd.R_drew)); exact HO_3.out)) k_ hk, Kd.fresh' (Kd.R_lt (by (with_reducible repeat (first | apply Kd.R_alloc | apply Kd.R_drewN | apply Kd.R_drew)); exact HO_8.out)) k_ hk, Kd.fresh' (Kd.R_lt (by (with_reducible repeat (first | apply Kd.R_alloc | apply Kd.R_drewN | apply Kd.R_drew)); exact HO305.out)) k_ hk⟩))
                                          (case aO => exact (by (with_reducible repeat (first | apply Kd.R_alloc | apply Kd.R_drewN | apply Kd.R_drew)); exact Kd.R_mono HO298.out (fun _ hk => ⟨hk.1.1.2, ⟨hk.1.2, hk.2⟩⟩)))
                                          (case aS => exact (below_size (by repeat (first | (with_reducible first | exact HB.out | apply below_alloc | apply pw_below_drewN | apply below_drew1 | refine below_set ?_ GE274.out) | exact HB.out))))
                                          (case aL => have := LMc54.out; omega)
                                          intro v300 w68 ho hb hg hat
                                          (first | have HS0_ := cell_grown hg (hHeld) (by first | (rw [add_block]; exact (fun e_ => by have h_ := HO298.out.1 _ e_.symm; first | exact h_ rfl | exact h_.1 rfl | exact h_.2 rfl | exact h_.1.1 rfl | exact h_.1.2 rfl | exact h_.2.1 rfl | exact h_.2.2 rfl | exact h_.1.1.1 rfl | exact h_.1.1.2 rfl | exact h_.1.2.1 rfl | exact h_.1.2.2 rfl | exact h_.2.1.1 rfl | exact h_.2.1.2 rfl | exact h_.2.2.1 rfl | exact h_.2.2.2 rfl | exact h_.1.1.1.1 rfl | exact h_.1.1.1.2 rfl | exact h_.1.1.2.1 rfl | exact h_.1.1.2.2 rfl | exact h_.1.2.1.1 rfl | exact h_.1.2.1.2 rfl | exact h_.1.2.2.1 rfl | exact h_.1.2.2.2 rfl | exact h_.2.1.1.1 rfl | exact h_.2.1.1.2 rfl | exact h_.2.1.2.1 rfl | exact h_.2.1.2.2 rfl | exact h_.2.2.1.1 rfl | exact h_.2.2.1.2 rfl | exact h_.2.2.2.1 rfl | exact h_.2.2.2.2 rfl)) | (show some (Addr.add _ _).block ≠ _; rw [add_block]; exact (fun e_ => by have h_ := HO298.out.1 _ e_.symm; first | exact h_ rfl | exact h_.1 rfl | exact h_.2 rfl | exact h_.1.1 rfl | exact h_.1.2 rfl | exact h_.2.1 rfl | exact h_.2.2 rfl | exact h_.1.1.1 rfl | exact h_.1.1.2 rfl | exact h_.1.2.1 rfl | exact h_.1.2.2 rfl | exact h_.2.1.1 rfl | exact h_.2.1.2 rfl | exact h_.2.2.1 rfl | exact h_.2.2.2 rfl | exact h_.1.1.1.1 rfl | exact h_.1.1.1.2 rfl | exact h_.1.1.2.1 rfl | exact h_.1.1.2.2 rfl | exact h_.1.2.1.1 rfl | exact h_.1.2.1.2 rfl | exact h_.1.2.2.1 rfl | exact h_.1.2.2.2 rfl | exact h_.2.1.1.1 rfl | exact h_.2.1.1.2 rfl | exact h_.2.1.2.1 rfl | exact h_.2.1.2.2 rfl | exact h_.2.2.1.1 rfl | exact h_.2.2.1.2 rfl | exact h_.2.2.2.1 rfl | exact h_.2.2.2.2 rfl)) | exact (fun e_ => by have h_ := HO298.out.1 _ e_.symm; first | exact h_ rfl | exact h_.1 rfl | exact h_.2 rfl | exact h_.1.1 rfl | exact h_.1.2 rfl | exact h_.2.1 rfl | exact h_.2.2 rfl | exact h_.1.1.1 rfl | exact h_.1.1.2 rfl | exact h_.1.2.1 rfl | exact h_.1.2.2 rfl | exact h_.2.1.1 rfl | exact h_.2.1.2 rfl | exact h_.2.2.1 rfl | exact h_.2.2.2 rfl | exact h_.1.1.1.1 rfl | exact h_.1.1.1.2 rfl | exact h_.1.1.2.1 rfl | exact h_.1.1.2.2 rfl | exact h_.1.2.1.1 rfl | exact h_.1.2.1.2 rfl | exact h_.1.2.2.1 rfl | exact h_.1.2.2.2 rfl | exact h_.2.1.1.1 rfl | exact h_.2.1.1.2 rfl | exact h_.2.1.2.1 rfl | exact h_.2.1.2.2 rfl | exact h_.2.2.1.1 rfl | exact h_.2.2.1.2 rfl | exact h_.2.2.2.1 rfl | exact h_.2.2.2.2 rfl)) | have HS0_ := cell_grown hg (cell_unalloc (hHeld) (by first | (rw [add_block]; exact Kd.R_lt HO_3.out _ rfl) | (show (Addr.add _ _).block < _; rw [add_block]; exact Kd.R_lt HO_3.out _ rfl) | exact Kd.R_lt HO_3.out _ rfl)) (by first | (rw [add_block]; exact (fun e_ => by have h_ := HO298.out.1 _ e_.symm; first | exact h_ rfl | exact h_.1 rfl | exact h_.2 rfl | exact h_.1.1 rfl | exact h_.1.2 rfl | exact h_.2.1 rfl | exact h_.2.2 rfl | exact h_.1.1.1 rfl | exact h_.1.1.2 rfl | exact h_.1.2.1 rfl | exact h_.1.2.2 rfl | exact h_.2.1.1 rfl | exact h_.2.1.2 rfl | exact h_.2.2.1 rfl | exact h_.2.2.2 rfl | exact h_.1.1.1.1 rfl | exact h_.1.1.1.2 rfl | exact h_.1.1.2.1 rfl | exact h_.1.1.2.2 rfl | exact h_.1.2.1.1 rfl | exact h_.1.2.1.2 rfl | exact h_.1.2.2.1 rfl | exact h_.1.2.2.2 rfl | exact h_.2.1.1.1 rfl | exact h_.2.1.1.2 rfl | exact h_.2.1.2.1 rfl | exact h_.2.1.2.2 rfl | exact h_.2.2.1.1 rfl | exact h_.2.2.1.2 rfl | exact h_.2.2.2.1 rfl | exact h_.2.2.2.2 rfl)) | (show some (Addr.add _ _).block ≠ _; rw [add_block]; exact (fun e_ => by have h_ := HO298.out.1 _ e_.symm; first | exact h_ rfl | exact h_.1 rfl | exact h_.2 rfl | exact h_.1.1 rfl | exact h_.1.2 rfl | exact h_.2.1 rfl | exact h_.2.2 rfl | exact h_.1.1.1 rfl | exact h_.1.1.2 rfl | exact h_.1.2.1 rfl | exact h_.1.2.2 rfl | exact h_.2.1.1 rfl | exact h_.2.1.2 rfl | exact h_.2.2.1 rfl | exact h_.2.2.2 rfl | exact h_.1.1.1.1 rfl | exact h_.1.1.1.2 rfl | exact h_.1.1.2.1 rfl | exact h_.1.1.2.2 rfl | exact h_.1.2.1.1 rfl | exact h_.1.2.1.2 rfl | exact h_.1.2.2.1 rfl | exact h_.1.2.2.2 rfl | exact h_.2.1.1.1 rfl | exact h_.2.1.1.2 rfl | exact h_.2.1.2.1 rfl | exact h_.2.1.2.2 rfl | exact h_.2.2.1.1 rfl | exact h_.2.2.1.2 rfl | exact h_.2.2.2.1 rfl | exact h_.2.2.2.2 rfl)) | exact (fun e_ => by have h_ := HO298.out.1 _ e_.symm; first | exact h_ rfl | exact h_.1 rfl | exact h_.2 rfl | exact h_.1.1 rfl | exact h_.1.2 rfl | exact h_.2.1 rfl | exact h_.2.2 rfl | exact h_.1.1.1 rfl | exact h_.1.1.2 rfl | exact h_.1.2.1 rfl | exact h_.1.2.2 rfl | exact h_.2.1.1 rfl | exact h_.2.1.2 rfl | exact h_.2.2.1 rfl | exact h_.2.2.2 rfl | exact h_.1.1.1.1 rfl | exact h_.1.1.1.2 rfl | exact h_.1.1.2.1 rfl | exact h_.1.1.2.2 rfl | exact h_.1.2.1.1 rfl | exact h_.1.2.1.2 rfl | exact h_.1.2.2.1 rfl | exact h_.1.2.2.2 rfl | exact h_.2.1.1.1 rfl | exact h_.2.1.1.2 rfl | exact h_.2.1.2.1 rfl | exact h_.2.1.2.2 rfl | exact h_.2.2.1.1 rfl | exact h_.2.2.1.2 rfl | exact h_.2.2.2.1 rfl | exact h_.2.2.2.2 rfl)))
                                          rw [← Ny299.out] at ho
                                          have n0_ := Aside0.mk (Kd.R_after (ok := (fun k_ => some k_ ≠ (v294 : Value).ownBlock ∧ some k_ ≠ (v304 : Value).ownBlock)) (by (with_reducible repeat (first | apply Kd.R_alloc | apply Kd.R_drewN | apply Kd.R_drew)); exact Kd.R_mono HO_3.out (fun _ hk => ⟨⟨hk.1.1, hk.2⟩, hk.1.2⟩)) hg hat)
                                          have n1_ := Aside0.mk (Kd.R_after (ok := (fun k_ => some k_ ≠ (.slice (some ad302) t266.length co10 : Value).ownBlock ∧ some k_ ≠ (v304 : Value).ownBlock)) (by (with_reducible repeat (first | apply Kd.R_alloc | apply Kd.R_drewN | apply Kd.R_drew)); exact Kd.R_mono HO_8.out (fun _ hk => ⟨⟨hk.1.1, hk.2⟩, hk.1.2⟩)) hg hat)
                                          have n2_ := Aside0.mk (blk_grown (g := gb274) (o := .cells #[.int .i64 t272, .int .i64 t273] 30 (0, 0)) (by (with_reducible repeat (first | refine blk_drewN ?_ _ | refine blk_drew ?_ | refine blk_alloc ?_ _)); exact BK274.out) hg (Kd.R_ne HO298.out BK274.out (by decide)))
                                          have n3_ := Aside0.mk (Kd.R_after (ok := (fun k_ => some k_ ≠ (.slice (some ad302) t266.length co10 : Value).ownBlock ∧ some k_ ≠ (v294 : Value).ownBlock)) (by (with_reducible repeat (first | apply Kd.R_alloc | apply Kd.R_drewN | apply Kd.R_drew)); exact Kd.R_mono HO305.out (fun _ hk => ⟨⟨hk.1.1.2, hk.1.2⟩, hk.2⟩)) hg hat)
                                          have n4_ := Aside0.mk (hb)
                                          have n5_ := Aside0.mk (ho)
                                          clear HO_3
                                          clear HO_8
                                          clear BK274
                                          clear HO305
                                          clear HB
                                          clear HO298
                                          have HO_3 := n0_
                                          have HO_8 := n1_
                                          have BK274 := n2_
                                          have HO305 := n3_
                                          have HB := n4_
                                          have HO301 := n5_
                                          clear n0_ n1_ n2_ n3_ n4_ n5_
                                          clear ho hb hg hat
                                          refine hK.out _ _ (HS0_) (fun hHeld => ?_)
                                          clear hK K
                                          refine norm_ (a' := ?_) ?_ ?_
                                          rotate_left
                                          · show Act.put _ (some 91) _ = _
                                            simp only [Act.put, List.setIfInBounds_toArray, List.set_cons_zero, List.set_cons_succ, i64_w, i32_w]
                                            rfl
                                          exact norm_ (by simp only [putAll, Act.put, List.setIfInBounds_toArray, List.set_cons_zero, List.set_cons_succ]) (hCont (v297, v300, v304) _ ⟨hHeld, (by (with_reducible repeat (first | apply Kd.R_alloc | apply Kd.R_drewN | apply Kd.R_drew)); exact Kd.R_mono HO301.out (fun _ hk => ⟨hk.2.2, ⟨hk.1, hk.2.1⟩⟩)), (by (with_reducible repeat (first | apply Kd.R_alloc | apply Kd.R_drewN | apply Kd.R_drew)); exact Kd.R_mono HO305.out (fun _ hk => ⟨hk.2, ⟨hk.1.1, hk.1.2⟩⟩)), (by (with_reducible repeat (first | apply Kd.R_alloc | apply Kd.R_drewN | apply Kd.R_drew)); exact Kd.R_mono HO_3.out (fun _ hk => ⟨hk.2, ⟨hk.1.2, hk.1.1⟩⟩)), (by (with_reducible repeat (first | apply Kd.R_alloc | apply Kd.R_drewN | apply Kd.R_drew)); exact Kd.R_mono HO_8.out (fun _ hk => ⟨hk.2, ⟨hk.1.2, hk.1.1⟩⟩)), (by (with_reducible repeat (first | refine blk_drewN ?_ _ | refine blk_drew ?_ | refine blk_alloc ?_ _)); exact BK274.out), (by repeat (first | (with_reducible first | exact HB.out | apply below_alloc | apply pw_below_drewN | apply below_drew1 | refine below_set ?_ GE274.out) | exact HB.out))⟩)
                                      · skip
                                        refine Kd.R_lit_step (Kd.int .i64) _ 2 ?hg (N := 98) ?hd (xs := ([rd t266 (ji55)] : List Int)) (inner := [.int .i64 (rd t266 (ji55))]) (ok := fun _ => True) (okp := fun _ => True) ?hr ?hp (fun _ hk => hk) trivial (Below.refl _ _) (Nat.le_refl _) (by simp) ?_; (case hd => rfl); (case hg => rfl); (case hr => first | (go_simp; done) | (go_simp; rfl)); (case hp => exact (Reps.one (show Kd.M (Kd.int .i64) _ _ _ (rd t266 (ji55)) [.int .i64 (rd t266 (ji55))] from rfl) (Reps.none _ _)))
                                        intro v304 w64 ho65 hb hg_ hnew_
                                        have HS0_ := (hb.cell (World.block_lt_of_cell? _ _ (hHeld))).trans (hHeld)
                                        clear hg_ hnew_
                                        (first | rw [← Ny303.out] at ho65 | (simp only [Int.reduceToNat] at ho65; rw [← Ny303.out] at ho65))
                                        have n0_ := Aside0.mk (Kd.R_elder' (by (with_reducible repeat (first | apply Kd.R_alloc | apply Kd.R_drewN | apply Kd.R_drew)); exact HO_3.out) (Kd.R_base ho65) hb)
                                        have n1_ := Aside0.mk (Kd.R_elder' (by (with_reducible repeat (first | apply Kd.R_alloc | apply Kd.R_drewN | apply Kd.R_drew)); exact HO_8.out) (Kd.R_base ho65) hb)
                                        have n2_ := Aside0.mk (Kd.R_lower (Kd.R_new' (Kd.R_new' ho65 (Kd.R_lt (by (with_reducible repeat (first | apply Kd.R_alloc | apply Kd.R_drewN | apply Kd.R_drew)); exact HO_3.out))) (Kd.R_lt (by (with_reducible repeat (first | apply Kd.R_alloc | apply Kd.R_drewN | apply Kd.R_drew)); exact HO_8.out))) (below_size (by repeat (first | (with_reducible first | exact HB.out | apply below_alloc | apply pw_below_drewN | apply below_drew1 | refine below_set ?_ GE274.out) | exact HB.out))))
                                        have n3_ := Aside0.mk (blk_below (g := gb274) (o := .cells #[.int .i64 t272, .int .i64 t273] 30 (0, 0)) (by (with_reducible repeat (first | refine blk_drewN ?_ _ | refine blk_drew ?_ | refine blk_alloc ?_ _)); exact BK274.out) hb)
                                        have n4_ := Aside0.mk (below_step (by repeat (first | (with_reducible first | exact HB.out | apply below_alloc | apply pw_below_drewN | apply below_drew1 | refine below_set ?_ GE274.out) | exact HB.out)) hb)
                                        clear HO_3
                                        clear HO_8
                                        clear BK274
                                        clear HB
                                        have HO_3 := n0_
                                        have HO_8 := n1_
                                        have HO305 := n2_
                                        have BK274 := n3_
                                        have HB := n4_
                                        clear n0_ n1_ n2_ n3_ n4_
                                        clear hb ho65
                                        refine hK.out _ _ (HS0_) (fun hHeld => ?_)
                                        clear hK K
                                        refine norm_ (a' := ?_) ?_ ?_
                                        rotate_left
                                        · show Act.put _ (some 98) _ = _
                                          simp only [Act.put, List.setIfInBounds_toArray, List.set_cons_zero, List.set_cons_succ, i64_w, i32_w]
                                          rfl
                                        refine one_ (i := 0) (N := some 89) #[true, true, false, true, true, true, true, true, true, true, false, false] rfl rfl (one_of HT_.out (by kernel_rfl)) (by decide) (fun K hK => ?_)
                                        refine Kd.R_lit_step (Kd.int .i64) _ 2 ?hg (N := 89) ?hd (xs := ([] : List Int)) (inner := []) (ok := fun _ => True) (okp := fun _ => True) ?hr ?hp (fun _ hk => hk) trivial (Below.refl _ _) (Nat.le_refl _) (by simp) ?_; (case hd => rfl); (case hg => rfl); (case hr => first | (go_simp; done) | (go_simp; rfl)); (case hp => exact (Reps.none _ _))
                                        intro v297 w66 ho67 hb hg_ hnew_
                                        have HS0_ := (hb.cell (World.block_lt_of_cell? _ _ (hHeld))).trans (hHeld)
                                        clear hg_ hnew_
                                        (first | rw [← Ny296.out] at ho67 | (simp only [Int.reduceToNat] at ho67; rw [← Ny296.out] at ho67))
                                        have n0_ := Aside0.mk (Kd.R_elder' (by (with_reducible repeat (first | apply Kd.R_alloc | apply Kd.R_drewN | apply Kd.R_drew)); exact HO_3.out) (Kd.R_base ho67) hb)
                                        have n1_ := Aside0.mk (Kd.R_elder' (by (with_reducible repeat (first | apply Kd.R_alloc | apply Kd.R_drewN | apply Kd.R_drew)); exact HO_8.out) (Kd.R_base ho67) hb)
                                        have n2_ := Aside0.mk (Kd.R_elder' (by (with_reducible repeat (first | apply Kd.R_alloc | apply Kd.R_drewN | apply Kd.R_drew)); exact HO305.out) (Kd.R_base ho67) hb)
                                        have n3_ := Aside0.mk (Kd.R_lower (Kd.R_new' (Kd.R_new' (Kd.R_new' ho67 (Kd.R_lt (by (with_reducible repeat (first | apply Kd.R_alloc | apply Kd.R_drewN | apply Kd.R_drew)); exact HO_3.out))) (Kd.R_lt (by (with_reducible repeat (first | apply Kd.R_alloc | apply Kd.R_drewN | apply Kd.R_drew)); exact HO_8.out))) (Kd.R_lt (by (with_reducible repeat (first | apply Kd.R_alloc | apply Kd.R_drewN | apply Kd.R_drew)); exact HO305.out))) (below_size (by repeat (first | (with_reducible first | exact HB.out | apply below_alloc | apply pw_below_drewN | apply below_drew1 | refine below_set ?_ GE274.out) | exact HB.out))))
                                        have n4_ := Aside0.mk (blk_below (g := gb274) (o := .cells #[.int .i64 t272, .int .i64 t273] 30 (0, 0)) (by (with_reducible repeat (first | refine blk_drewN ?_ _ | refine blk_drew ?_ | refine blk_alloc ?_ _)); exact BK274.out) hb)
                                        have n5_ := Aside0.mk (below_step (by repeat (first | (with_reducible first | exact HB.out | apply below_alloc | apply pw_below_drewN | apply below_drew1 | refine below_set ?_ GE274.out) | exact HB.out)) hb)
                                        clear HO_3
                                        clear HO_8
                                        clear HO305
                                        clear BK274
                                        clear HB
                                        have HO_3 := n0_
                                        have HO_8 := n1_
                                        have HO305 := n2_
                                        have HO298 := n3_
                                        have BK274 := n4_
                                        have HB := n5_
                                        clear n0_ n1_ n2_ n3_ n4_ n5_
                                        clear hb ho67
                                        refine hK.out _ _ (HS0_) (fun hHeld => ?_)
                                        clear hK K
                                        refine norm_ (a' := ?_) ?_ ?_
                                        rotate_left
                                        · show Act.put _ (some 89) _ = _
                                          simp only [Act.put, List.setIfInBounds_toArray, List.set_cons_zero, List.set_cons_succ, i64_w, i32_w]
                                          rfl
                                        refine one_ (i := 2) (N := some 91) #[true, true, true, true, true, true, true, true, true, true, false, false] rfl rfl (one_of HT_.out (by kernel_rfl)) (by decide) (fun K hK => ?_)
                                        refine Kd.R_append_rows_step (Kd.int .i64) (w0 := w) w.heap.size (by rfl) (.tmp 89) (.tmp 90) 24 2 (.int .i64 0) 8 rfl Try.underlying24 info2 rfl (by decide) (by omega) v297 y296 t266 _ _ _ (fun k_ => some k_ ≠ (.slice (some ad302) t266.length co10 : Value).ownBlock ∧ some k_ ≠ (v294 : Value).ownBlock ∧ some k_ ≠ (v304 : Value).ownBlock) (fun _ => False) rfl rfl ?aO ?aR (fun _ _ h => h) (fun _ h => h.elim) ?aF ?aB ?aS ?aL ?_
                                        (case aR => repeat (first | exact (Kd.R_reads' HO_3.out).2.2 | (with_reducible refine Kd.C_alloc ?_ _) | (with_reducible refine Kd.C_drewN ?_ _) | (with_reducible refine Kd.C_drew ?_)))
                                        (case aB => exact (by repeat (first | (with_reducible first | exact HB.out | apply below_alloc | apply pw_below_drewN | apply below_drew1 | refine below_set ?_ GE274.out) | exact HB.out)))
                                        (case aF => exact (fun k_ hk => ⟨Kd.fresh' (Kd.R_lt (by (with_reducible repeat (first | apply Kd.R_alloc | apply Kd.R_drewN | apply Kd.R_drew)); exact HO_3.out)) k_ hk, Kd.fresh' (Kd.R_lt (by (with_reducible repeat (first | apply Kd.R_alloc | apply Kd.R_drewN | apply Kd.R_drew)); exact HO_8.out)) k_ hk, Kd.fresh' (Kd.R_lt (by (with_reducible repeat (first | apply Kd.R_alloc | apply Kd.R_drewN | apply Kd.R_drew)); exact HO305.out)) k_ hk⟩))
                                        (case aO => exact (by (with_reducible repeat (first | apply Kd.R_alloc | apply Kd.R_drewN | apply Kd.R_drew)); exact Kd.R_mono HO298.out (fun _ hk => ⟨hk.1.1.2, ⟨hk.1.2, hk.2⟩⟩)))
                                        (case aS => exact (below_size (by repeat (first | (with_reducible first | exact HB.out | apply below_alloc | apply pw_below_drewN | apply below_drew1 | refine below_set ?_ GE274.out) | exact HB.out))))
                                        (case aL => have := LMc54.out; omega)
                                        intro v300 w68 ho hb hg hat
                                        (first | have HS0_ := cell_grown hg (hHeld) (by first | (rw [add_block]; exact (fun e_ => by have h_ := HO298.out.1 _ e_.symm; first | exact h_ rfl | exact h_.1 rfl | exact h_.2 rfl | exact h_.1.1 rfl | exact h_.1.2 rfl | exact h_.2.1 rfl | exact h_.2.2 rfl | exact h_.1.1.1 rfl | exact h_.1.1.2 rfl | exact h_.1.2.1 rfl | exact h_.1.2.2 rfl | exact h_.2.1.1 rfl | exact h_.2.1.2 rfl | exact h_.2.2.1 rfl | exact h_.2.2.2 rfl | exact h_.1.1.1.1 rfl | exact h_.1.1.1.2 rfl | exact h_.1.1.2.1 rfl | exact h_.1.1.2.2 rfl | exact h_.1.2.1.1 rfl | exact h_.1.2.1.2 rfl | exact h_.1.2.2.1 rfl | exact h_.1.2.2.2 rfl | exact h_.2.1.1.1 rfl | exact h_.2.1.1.2 rfl | exact h_.2.1.2.1 rfl | exact h_.2.1.2.2 rfl | exact h_.2.2.1.1 rfl | exact h_.2.2.1.2 rfl | exact h_.2.2.2.1 rfl | exact h_.2.2.2.2 rfl)) | (show some (Addr.add _ _).block ≠ _; rw [add_block]; exact (fun e_ => by have h_ := HO298.out.1 _ e_.symm; first | exact h_ rfl | exact h_.1 rfl | exact h_.2 rfl | exact h_.1.1 rfl | exact h_.1.2 rfl | exact h_.2.1 rfl | exact h_.2.2 rfl | exact h_.1.1.1 rfl | exact h_.1.1.2 rfl | exact h_.1.2.1 rfl | exact h_.1.2.2 rfl | exact h_.2.1.1 rfl | exact h_.2.1.2 rfl | exact h_.2.2.1 rfl | exact h_.2.2.2 rfl | exact h_.1.1.1.1 rfl | exact h_.1.1.1.2 rfl | exact h_.1.1.2.1 rfl | exact h_.1.1.2.2 rfl | exact h_.1.2.1.1 rfl | exact h_.1.2.1.2 rfl | exact h_.1.2.2.1 rfl | exact h_.1.2.2.2 rfl | exact h_.2.1.1.1 rfl | exact h_.2.1.1.2 rfl | exact h_.2.1.2.1 rfl | exact h_.2.1.2.2 rfl | exact h_.2.2.1.1 rfl | exact h_.2.2.1.2 rfl | exact h_.2.2.2.1 rfl | exact h_.2.2.2.2 rfl)) | exact (fun e_ => by have h_ := HO298.out.1 _ e_.symm; first | exact h_ rfl | exact h_.1 rfl | exact h_.2 rfl | exact h_.1.1 rfl | exact h_.1.2 rfl | exact h_.2.1 rfl | exact h_.2.2 rfl | exact h_.1.1.1 rfl | exact h_.1.1.2 rfl | exact h_.1.2.1 rfl | exact h_.1.2.2 rfl | exact h_.2.1.1 rfl | exact h_.2.1.2 rfl | exact h_.2.2.1 rfl | exact h_.2.2.2 rfl | exact h_.1.1.1.1 rfl | exact h_.1.1.1.2 rfl | exact h_.1.1.2.1 rfl | exact h_.1.1.2.2 rfl | exact h_.1.2.1.1 rfl | exact h_.1.2.1.2 rfl | exact h_.1.2.2.1 rfl | exact h_.1.2.2.2 rfl | exact h_.2.1.1.1 rfl | exact h_.2.1.1.2 rfl | exact h_.2.1.2.1 rfl | exact h_.2.1.2.2 rfl | exact h_.2.2.1.1 rfl | exact h_.2.2.1.2 rfl | exact h_.2.2.2.1 rfl | exact h_.2.2.2.2 rfl)) | have HS0_ := cell_grown hg (cell_unalloc (hHeld) (by first | (rw [add_block]; exact Kd.R_lt HO_3.out _ rfl) | (show (Addr.add _ _).block < _; rw [add_block]; exact Kd.R_lt HO_3.out _ rfl) | exact Kd.R_lt HO_3.out _ rfl)) (by first | (rw [add_block]; exact (fun e_ => by have h_ := HO298.out.1 _ e_.symm; first | exact h_ rfl | exact h_.1 rfl | exact h_.2 rfl | exact h_.1.1 rfl | exact h_.1.2 rfl | exact h_.2.1 rfl | exact h_.2.2 rfl | exact h_.1.1.1 rfl | exact h_.1.1.2 rfl | exact h_.1.2.1 rfl | exact h_.1.2.2 rfl | exact h_.2.1.1 rfl | exact h_.2.1.2 rfl | exact h_.2.2.1 rfl | exact h_.2.2.2 rfl | exact h_.1.1.1.1 rfl | exact h_.1.1.1.2 rfl | exact h_.1.1.2.1 rfl | exact h_.1.1.2.2 rfl | exact h_.1.2.1.1 rfl | exact h_.1.2.1.2 rfl | exact h_.1.2.2.1 rfl | exact h_.1.2.2.2 rfl | exact h_.2.1.1.1 rfl | exact h_.2.1.1.2 rfl | exact h_.2.1.2.1 rfl | exact h_.2.1.2.2 rfl | exact h_.2.2.1.1 rfl | exact h_.2.2.1.2 rfl | exact h_.2.2.2.1 rfl | exact h_.2.2.2.2 rfl)) | (show some (Addr.add _ _).block ≠ _; rw [add_block]; exact (fun e_ => by have h_ := HO298.out.1 _ e_.symm; first | exact h_ rfl | exact h_.1 rfl | exact h_.2 rfl | exact h_.1.1 rfl | exact h_.1.2 rfl | exact h_.2.1 rfl | exact h_.2.2 rfl | exact h_.1.1.1 rfl | exact h_.1.1.2 rfl | exact h_.1.2.1 rfl | exact h_.1.2.2 rfl | exact h_.2.1.1 rfl | exact h_.2.1.2 rfl | exact h_.2.2.1 rfl | exact h_.2.2.2 rfl | exact h_.1.1.1.1 rfl | exact h_.1.1.1.2 rfl | exact h_.1.1.2.1 rfl | exact h_.1.1.2.2 rfl | exact h_.1.2.1.1 rfl | exact h_.1.2.1.2 rfl | exact h_.1.2.2.1 rfl | exact h_.1.2.2.2 rfl | exact h_.2.1.1.1 rfl | exact h_.2.1.1.2 rfl | exact h_.2.1.2.1 rfl | exact h_.2.1.2.2 rfl | exact h_.2.2.1.1 rfl | exact h_.2.2.1.2 rfl | exact h_.2.2.2.1 rfl | exact h_.2.2.2.2 rfl)) | exact (fun e_ => by have h_ := HO298.out.1 _ e_.symm; first | exact h_ rfl | exact h_.1 rfl | exact h_.2 rfl | exact h_.1.1 rfl | exact h_.1.2 rfl | exact h_.2.1 rfl | exact h_.2.2 rfl | exact h_.1.1.1 rfl | exact h_.1.1.2 rfl | exact h_.1.2.1 rfl | exact h_.1.2.2 rfl | exact h_.2.1.1 rfl | exact h_.2.1.2 rfl | exact h_.2.2.1 rfl | exact h_.2.2.2 rfl | exact h_.1.1.1.1 rfl | exact h_.1.1.1.2 rfl | exact h_.1.1.2.1 rfl | exact h_.1.1.2.2 rfl | exact h_.1.2.1.1 rfl | exact h_.1.2.1.2 rfl | exact h_.1.2.2.1 rfl | exact h_.1.2.2.2 rfl | exact h_.2.1.1.1 rfl | exact h_.2.1.1.2 rfl | exact h_.2.1.2.1 rfl | exact h_.2.1.2.2 rfl | exact h_.2.2.1.1 rfl | exact h_.2.2.1.2 rfl | exact h_.2.2.2.1 rfl | exact h_.2.2.2.2 rfl)))
                                        rw [← Ny299.out] at ho
                                        have n0_ := Aside0.mk (Kd.R_after (ok := (fun k_ => some k_ ≠ (v294 : Value).ownBlock ∧ some k_ ≠ (v304 : Value).ownBlock)) (by (with_reducible repeat (first | apply Kd.R_alloc | apply Kd.R_drewN | apply Kd.R_drew)); exact HO_3.out) hg hat)
                                        have n1_ := Aside0.mk (Kd.R_after (ok := (fun k_ => some k_ ≠ (.slice (some ad302) t266.length co10 : Value).ownBlock ∧ some k_ ≠ (v304 : Value).ownBlock)) (by (with_reducible repeat (first | apply Kd.R_alloc | apply Kd.R_drewN | apply Kd.R_drew)); exact HO_8.out) hg hat)
                                        have n2_ := Aside0.mk (blk_grown (g := gb274) (o := .cells #[.int .i64 t272, .int .i64 t273] 30 (0, 0)) (by (with_reducible repeat (first | refine blk_drewN ?_ _ | refine blk_drew ?_ | refine blk_alloc ?_ _)); exact BK274.out) hg (Kd.R_ne HO298.out BK274.out (by decide)))
                                        have n3_ := Aside0.mk (Kd.R_after (ok := (fun k_ => some k_ ≠ (.slice (some ad302) t266.length co10 : Value).ownBlock ∧ some k_ ≠ (v294 : Value).ownBlock)) (by (with_reducible repeat (first | apply Kd.R_alloc | apply Kd.R_drewN | apply Kd.R_drew)); exact Kd.R_mono HO305.out (fun _ hk => ⟨⟨hk.1.1.2, hk.1.2⟩, hk.2⟩)) hg hat)
                                        have n4_ := Aside0.mk (hb)
                                        have n5_ := Aside0.mk (ho)
                                        clear HO_3
                                        clear HO_8
                                        clear BK274
                                        clear HO305
                                        clear HB
                                        clear HO298
                                        have HO_3 := n0_
                                        have HO_8 := n1_
                                        have BK274 := n2_
                                        have HO305 := n3_
                                        have HB := n4_
                                        have HO301 := n5_
                                        clear n0_ n1_ n2_ n3_ n4_ n5_
                                        clear ho hb hg hat
                                        refine hK.out _ _ (HS0_) (fun hHeld => ?_)
                                        clear hK K
                                        refine norm_ (a' := ?_) ?_ ?_
                                        rotate_left
                                        · show Act.put _ (some 91) _ = _
                                          simp only [Act.put, List.setIfInBounds_toArray, List.set_cons_zero, List.set_cons_succ, i64_w, i32_w]
                                          rfl
                                        exact norm_ (by simp only [putAll, Act.put, List.setIfInBounds_toArray, List.set_cons_zero, List.set_cons_succ]) (hCont (v297, v300, v304) _ ⟨hHeld, (by (with_reducible repeat (first | apply Kd.R_alloc | apply Kd.R_drewN | apply Kd.R_drew)); exact Kd.R_mono HO301.out (fun _ hk => ⟨hk.2.2, ⟨hk.1, hk.2.1⟩⟩)), (by (with_reducible repeat (first | apply Kd.R_alloc | apply Kd.R_drewN | apply Kd.R_drew)); exact Kd.R_mono HO305.out (fun _ hk => ⟨hk.2, ⟨hk.1.1, hk.1.2⟩⟩)), (by (with_reducible repeat (first | apply Kd.R_alloc | apply Kd.R_drewN | apply Kd.R_drew)); exact Kd.R_mono HO_3.out (fun _ hk => ⟨hk.2, ⟨hk.1.2, hk.1.1⟩⟩)), (by (with_reducible repeat (first | apply Kd.R_alloc | apply Kd.R_drewN | apply Kd.R_drew)); exact Kd.R_mono HO_8.out (fun _ hk => ⟨hk.2, ⟨hk.1.2, hk.1.1⟩⟩)), (by (with_reducible repeat (first | refine blk_drewN ?_ _ | refine blk_drew ?_ | refine blk_alloc ?_ _)); exact BK274.out), (by repeat (first | (with_reducible first | exact HB.out | apply below_alloc | apply pw_below_drewN | apply below_drew1 | refine below_set ?_ GE274.out) | exact HB.out))⟩)
                                    rintro ⟨v297, v300, v304⟩ w69 ⟨hS_, h0_, h1_, h2_, h3_, h4_, h5_⟩
                                    have n0_ : Aside0 (Kd.R (Kd.int .i64) 2 w69 w.heap.size (fun k_ => some k_ ≠ (v304 : Value).ownBlock ∧ some k_ ≠ (.slice (some ad302) t266.length co10 : Value).ownBlock ∧ some k_ ≠ (v294 : Value).ownBlock) v300 y299) := ⟨h0_⟩
                                    have n1_ : Aside0 (Kd.R (Kd.int .i64) 2 w69 w.heap.size (fun k_ => some k_ ≠ (v300 : Value).ownBlock ∧ some k_ ≠ (.slice (some ad302) t266.length co10 : Value).ownBlock ∧ some k_ ≠ (v294 : Value).ownBlock) v304 y303) := ⟨h1_⟩
                                    have n2_ : Aside0 (Kd.R (Kd.int .i64) 2 w69 w.heap.size (fun k_ => some k_ ≠ (v300 : Value).ownBlock ∧ some k_ ≠ (v304 : Value).ownBlock ∧ some k_ ≠ (v294 : Value).ownBlock) (.slice (some ad302) t266.length co10) t266) := ⟨h2_⟩
                                    have n3_ : Aside0 (Kd.R (Kd.int .i64) 2 w69 w.heap.size (fun k_ => some k_ ≠ (v300 : Value).ownBlock ∧ some k_ ≠ (v304 : Value).ownBlock ∧ some k_ ≠ (.slice (some ad302) t266.length co10 : Value).ownBlock) v294 y293) := ⟨h3_⟩
                                    have n4_ : Aside0 (w69.heap[gb274]? = some (.cells #[.int .i64 t272, .int .i64 t273] 30 (0, 0))) := ⟨h4_⟩
                                    have n5_ : Aside0 (Below w.heap.size w w69) := ⟨h5_⟩
                                    clear HO_3
                                    clear HO_8
                                    clear BK274
                                    clear HB
                                    clear h0_ h1_ h2_ h3_ h4_ h5_
                                    have HO301 := n0_
                                    have HO305 := n1_
                                    have HO_3 := n2_
                                    have HO_8 := n3_
                                    have BK274 := n4_
                                    have HB := n5_
                                    clear n0_ n1_ n2_ n3_ n4_ n5_
                                    have hHeld : w69.cell? (ad302.add ((ji55)).toNat) = some (.int .i64 (rd t266 (ji55))) := hS_
                                    obtain ⟨Ao71, co71, eo71⟩ := Kd.R_slice HO305.out
                                    (first | subst eo71 | (injection eo71 with f1_ f2_ f3_; have f4_ := f1_.symm; have f5_ := f3_.symm; clear f1_ f2_ f3_; subst f4_; subst f5_))
                                    refine norm_ (a' := ?_) ?_ ?_
                                    rotate_left
                                    · simp only [putAll, Act.put, List.setIfInBounds_toArray, List.set_cons_zero, List.set_cons_succ]
                                      rfl
                                    refine one_ (i := 10) (N := some 99) #[true, true, true, true, true, true, true, true, true, true, true, false] rfl rfl (one_of HT_.out (by kernel_rfl)) (by decide) (fun K hK => ?_)
                                    refine Kd.R_append_rows_step (Kd.int .i64) (w0 := w) w.heap.size (by rfl) (.tmp 91) (.tmp 98) 24 2 (.int .i64 0) 8 rfl Try.underlying24 info2 rfl (by decide) (by omega) v300 y299 y303 _ _ _ (fun k_ => some k_ ≠ (.slice (some ad302) t266.length co10 : Value).ownBlock ∧ some k_ ≠ (v294 : Value).ownBlock ∧ some k_ ≠ (.slice Ao71 y303.length co71 : Value).ownBlock) (fun _ => False) rfl rfl ?aO ?aR (fun _ _ h => h) (fun _ h => h.elim) ?aF ?aB ?aS ?aL ?_
                                    (case aR => repeat (first | exact (Kd.R_reads' HO305.out).2.2 | (with_reducible refine Kd.C_alloc ?_ _) | (with_reducible refine Kd.C_drewN ?_ _) | (with_reducible refine Kd.C_drew ?_)))
                                    (case aB => exact (by repeat (first | (with_reducible first | exact HB.out | apply below_alloc | apply pw_below_drewN | apply below_drew1 | refine below_set ?_ GE274.out) | exact HB.out)))
                                    (case aF => exact (fun k_ hk => ⟨Kd.fresh' (Kd.R_lt (by (with_reducible repeat (first | apply Kd.R_alloc | apply Kd.R_drewN | apply Kd.R_drew)); exact HO_3.out)) k_ hk, Kd.fresh' (Kd.R_lt (by (with_reducible repeat (first | apply Kd.R_alloc | apply Kd.R_drewN | apply Kd.R_drew)); exact HO_8.out)) k_ hk, Kd.fresh' (Kd.R_lt (by (with_reducible repeat (first | apply Kd.R_alloc | apply Kd.R_drewN | apply Kd.R_drew)); exact HO305.out)) k_ hk⟩))
                                    (case aO => exact (by (with_reducible repeat (first | apply Kd.R_alloc | apply Kd.R_drewN | apply Kd.R_drew)); exact Kd.R_mono HO301.out (fun _ hk => ⟨hk.2.1, ⟨hk.2.2, hk.1⟩⟩)))
                                    (case aS => exact (below_size (by repeat (first | (with_reducible first | exact HB.out | apply below_alloc | apply pw_below_drewN | apply below_drew1 | refine below_set ?_ GE274.out) | exact HB.out))))
                                    (case aL => have := LMc58.out; omega)
                                    intro v307 w70 ho hb hg hat
                                    (first | have HS0_ := cell_grown hg (hHeld) (by first | (rw [add_block]; exact (fun e_ => by have h_ := HO301.out.1 _ e_.symm; first | exact h_ rfl | exact h_.1 rfl | exact h_.2 rfl | exact h_.1.1 rfl | exact h_.1.2 rfl | exact h_.2.1 rfl | exact h_.2.2 rfl | exact h_.1.1.1 rfl | exact h_.1.1.2 rfl | exact h_.1.2.1 rfl | exact h_.1.2.2 rfl | exact h_.2.1.1 rfl | exact h_.2.1.2 rfl | exact h_.2.2.1 rfl | exact h_.2.2.2 rfl | exact h_.1.1.1.1 rfl | exact h_.1.1.1.2 rfl | exact h_.1.1.2.1 rfl | exact h_.1.1.2.2 rfl | exact h_.1.2.1.1 rfl | exact h_.1.2.1.2 rfl | exact h_.1.2.2.1 rfl | exact h_.1.2.2.2 rfl | exact h_.2.1.1.1 rfl | exact h_.2.1.1.2 rfl | exact h_.2.1.2.1 rfl | exact h_.2.1.2.2 rfl | exact h_.2.2.1.1 rfl | exact h_.2.2.1.2 rfl | exact h_.2.2.2.1 rfl | exact h_.2.2.2.2 rfl)) | (show some (Addr.add _ _).block ≠ _; rw [add_block]; exact (fun e_ => by have h_ := HO301.out.1 _ e_.symm; first | exact h_ rfl | exact h_.1 rfl | exact h_.2 rfl | exact h_.1.1 rfl | exact h_.1.2 rfl | exact h_.2.1 rfl | exact h_.2.2 rfl | exact h_.1.1.1 rfl | exact h_.1.1.2 rfl | exact h_.1.2.1 rfl | exact h_.1.2.2 rfl | exact h_.2.1.1 rfl | exact h_.2.1.2 rfl | exact h_.2.2.1 rfl | exact h_.2.2.2 rfl | exact h_.1.1.1.1 rfl | exact h_.1.1.1.2 rfl | exact h_.1.1.2.1 rfl | exact h_.1.1.2.2 rfl | exact h_.1.2.1.1 rfl | exact h_.1.2.1.2 rfl | exact h_.1.2.2.1 rfl | exact h_.1.2.2.2 rfl | exact h_.2.1.1.1 rfl | exact h_.2.1.1.2 rfl | exact h_.2.1.2.1 rfl | exact h_.2.1.2.2 rfl | exact h_.2.2.1.1 rfl | exact h_.2.2.1.2 rfl | exact h_.2.2.2.1 rfl | exact h_.2.2.2.2 rfl)) | exact (fun e_ => by have h_ := HO301.out.1 _ e_.symm; first | exact h_ rfl | exact h_.1 rfl | exact h_.2 rfl | exact h_.1.1 rfl | exact h_.1.2 rfl | exact h_.2.1 rfl | exact h_.2.2 rfl | exact h_.1.1.1 rfl | exact h_.1.1.2 rfl | exact h_.1.2.1 rfl | exact h_.1.2.2 rfl | exact h_.2.1.1 rfl | exact h_.2.1.2 rfl | exact h_.2.2.1 rfl | exact h_.2.2.2 rfl | exact h_.1.1.1.1 rfl | exact h_.1.1.1.2 rfl | exact h_.1.1.2.1 rfl | exact h_.1.1.2.2 rfl | exact h_.1.2.1.1 rfl | exact h_.1.2.1.2 rfl | exact h_.1.2.2.1 rfl | exact h_.1.2.2.2 rfl | exact h_.2.1.1.1 rfl | exact h_.2.1.1.2 rfl | exact h_.2.1.2.1 rfl | exact h_.2.1.2.2 rfl | exact h_.2.2.1.1 rfl | exact h_.2.2.1.2 rfl | exact h_.2.2.2.1 rfl | exact h_.2.2.2.2 rfl)) | have HS0_ := cell_grown hg (cell_unalloc (hHeld) (by first | (rw [add_block]; exact Kd.R_lt HO_3.out _ rfl) | (show (Addr.add _ _).block < _; rw [add_block]; exact Kd.R_lt HO_3.out _ rfl) | exact Kd.R_lt HO_3.out _ rfl)) (by first | (rw [add_block]; exact (fun e_ => by have h_ := HO301.out.1 _ e_.symm; first | exact h_ rfl | exact h_.1 rfl | exact h_.2 rfl | exact h_.1.1 rfl | exact h_.1.2 rfl | exact h_.2.1 rfl | exact h_.2.2 rfl | exact h_.1.1.1 rfl | exact h_.1.1.2 rfl | exact h_.1.2.1 rfl | exact h_.1.2.2 rfl | exact h_.2.1.1 rfl | exact h_.2.1.2 rfl | exact h_.2.2.1 rfl | exact h_.2.2.2 rfl | exact h_.1.1.1.1 rfl | exact h_.1.1.1.2 rfl | exact h_.1.1.2.1 rfl | exact h_.1.1.2.2 rfl | exact h_.1.2.1.1 rfl | exact h_.1.2.1.2 rfl | exact h_.1.2.2.1 rfl | exact h_.1.2.2.2 rfl | exact h_.2.1.1.1 rfl | exact h_.2.1.1.2 rfl | exact h_.2.1.2.1 rfl | exact h_.2.1.2.2 rfl | exact h_.2.2.1.1 rfl | exact h_.2.2.1.2 rfl | exact h_.2.2.2.1 rfl | exact h_.2.2.2.2 rfl)) | (show some (Addr.add _ _).block ≠ _; rw [add_block]; exact (fun e_ => by have h_ := HO301.out.1 _ e_.symm; first | exact h_ rfl | exact h_.1 rfl | exact h_.2 rfl | exact h_.1.1 rfl | exact h_.1.2 rfl | exact h_.2.1 rfl | exact h_.2.2 rfl | exact h_.1.1.1 rfl | exact h_.1.1.2 rfl | exact h_.1.2.1 rfl | exact h_.1.2.2 rfl | exact h_.2.1.1 rfl | exact h_.2.1.2 rfl | exact h_.2.2.1 rfl | exact h_.2.2.2 rfl | exact h_.1.1.1.1 rfl | exact h_.1.1.1.2 rfl | exact h_.1.1.2.1 rfl | exact h_.1.1.2.2 rfl | exact h_.1.2.1.1 rfl | exact h_.1.2.1.2 rfl | exact h_.1.2.2.1 rfl | exact h_.1.2.2.2 rfl | exact h_.2.1.1.1 rfl | exact h_.2.1.1.2 rfl | exact h_.2.1.2.1 rfl | exact h_.2.1.2.2 rfl | exact h_.2.2.1.1 rfl | exact h_.2.2.1.2 rfl | exact h_.2.2.2.1 rfl | exact h_.2.2.2.2 rfl)) | exact (fun e_ => by have h_ := HO301.out.1 _ e_.symm; first | exact h_ rfl | exact h_.1 rfl | exact h_.2 rfl | exact h_.1.1 rfl | exact h_.1.2 rfl | exact h_.2.1 rfl | exact h_.2.2 rfl | exact h_.1.1.1 rfl | exact h_.1.1.2 rfl | exact h_.1.2.1 rfl | exact h_.1.2.2 rfl | exact h_.2.1.1 rfl | exact h_.2.1.2 rfl | exact h_.2.2.1 rfl | exact h_.2.2.2 rfl | exact h_.1.1.1.1 rfl | exact h_.1.1.1.2 rfl | exact h_.1.1.2.1 rfl | exact h_.1.1.2.2 rfl | exact h_.1.2.1.1 rfl | exact h_.1.2.1.2 rfl | exact h_.1.2.2.1 rfl | exact h_.1.2.2.2 rfl | exact h_.2.1.1.1 rfl | exact h_.2.1.1.2 rfl | exact h_.2.1.2.1 rfl | exact h_.2.1.2.2 rfl | exact h_.2.2.1.1 rfl | exact h_.2.2.1.2 rfl | exact h_.2.2.2.1 rfl | exact h_.2.2.2.2 rfl)))
                                    rw [← Ny306.out] at ho
                                    have n0_ := Aside0.mk (Kd.R_after (ok := (fun k_ => some k_ ≠ (v294 : Value).ownBlock ∧ some k_ ≠ (.slice Ao71 y303.length co71 : Value).ownBlock)) (by (with_reducible repeat (first | apply Kd.R_alloc | apply Kd.R_drewN | apply Kd.R_drew)); exact Kd.R_mono HO_3.out (fun _ hk => ⟨⟨hk.2.2, hk.2.1⟩, hk.1⟩)) hg hat)
                                    have n1_ := Aside0.mk (Kd.R_after (ok := (fun k_ => some k_ ≠ (.slice (some ad302) t266.length co10 : Value).ownBlock ∧ some k_ ≠ (.slice Ao71 y303.length co71 : Value).ownBlock)) (by (with_reducible repeat (first | apply Kd.R_alloc | apply Kd.R_drewN | apply Kd.R_drew)); exact Kd.R_mono HO_8.out (fun _ hk => ⟨⟨hk.2.2, hk.2.1⟩, hk.1⟩)) hg hat)
                                    have n2_ := Aside0.mk (blk_grown (g := gb274) (o := .cells #[.int .i64 t272, .int .i64 t273] 30 (0, 0)) (by (with_reducible repeat (first | refine blk_drewN ?_ _ | refine blk_drew ?_ | refine blk_alloc ?_ _)); exact BK274.out) hg (Kd.R_ne HO301.out BK274.out (by decide)))
                                    have n3_ := Aside0.mk (Kd.R_after (ok := (fun k_ => some k_ ≠ (.slice (some ad302) t266.length co10 : Value).ownBlock ∧ some k_ ≠ (v294 : Value).ownBlock)) (by (with_reducible repeat (first | apply Kd.R_alloc | apply Kd.R_drewN | apply Kd.R_drew)); exact Kd.R_mono HO305.out (fun _ hk => ⟨⟨hk.2.1, hk.2.2⟩, hk.1⟩)) hg hat)
                                    have n4_ := Aside0.mk (hb)
                                    have n5_ := Aside0.mk (ho)
                                    clear HO_3
                                    clear HO_8
                                    clear BK274
                                    clear HO305
                                    clear HB
                                    clear HO301
                                    have HO_3 := n0_
                                    have HO_8 := n1_
                                    have BK274 := n2_
                                    have HO305 := n3_
                                    have HB := n4_
                                    have HO308 := n5_
                                    clear n0_ n1_ n2_ n3_ n4_ n5_
                                    clear ho hb hg hat
                                    refine hK.out _ _ (HS0_) (fun hHeld => ?_)
                                    clear hK K
                                    refine norm_ (a' := ?_) ?_ ?_
                                    rotate_left
                                    · show Act.put _ (some 99) _ = _
                                      simp only [Act.put, List.setIfInBounds_toArray, List.set_cons_zero, List.set_cons_succ, i64_w, i32_w]
                                      rfl
                                    refine pure_ (i := 11) (N := some 9) (v := ?_) (a' := ?_) #[true, true, true, true, true, true, true, true, true, true, true, true] rfl rfl (any_of HT_.out (by kernel_rfl)) (fun _ _ _ h => h) (Or.inl ⟨by rfl, ?_⟩) ?_ ?_
                                    rotate_left
                                    · intro w'
                                      go_simp
                                      with_reducible rfl
                                    rotate_left
                                    · simp only [Act.put, List.setIfInBounds_toArray, List.set_cons_zero, List.set_cons_succ, i64_w, i32_w]
                                      rfl
                                    refine done_ (done_of HT_.out (by kernel_rfl)) ?_
                                    obtain ⟨Ao72, co72, eo72⟩ := Kd.R_slice HO308.out
                                    subst eo72
                                    try go_wp2_with (first | ((with_reducible refine gate_callee (f := 15) rfl ?_); refine goesL_ (some 101) rfl rfl Try.func15 (by kernel_rfl) rfl #[.slice Ao72 y306.length co72] rfl (by (try simp only [List.map_toArray, List.map_cons, List.map_nil]); first | done | rfl | (simp only [List.length_drop, List.length_take]; rfl)) ?_; (with_reducible refine (impl_HasTwin.calls kj46 (fun k_ => some k_ = (.slice Ao72 y306.length co72 : Value).ownBlock) _ _ y306 true _ ?side1 A59.out).mono ?_); (case side1 => exact Kd.R_V (Kd.R_tight rfl (Kd.R_types (HO308.out) BK274.out (by decide)))); rintro e w73 ⟨rfl, hb⟩; refine ⟨_, rfl, ?_⟩; have n0_ := Aside0.mk (Kd.R_below (by (with_reducible repeat (first | apply Kd.R_alloc | apply Kd.R_drewN | apply Kd.R_drew)); exact HO_3.out) hb); have n1_ := Aside0.mk (Kd.R_below (by (with_reducible repeat (first | apply Kd.R_alloc | apply Kd.R_drewN | apply Kd.R_drew)); exact HO_8.out) hb); have n2_ := Aside0.mk (Kd.R_below (by (with_reducible repeat (first | apply Kd.R_alloc | apply Kd.R_drewN | apply Kd.R_drew)); exact HO305.out) hb); have n3_ := Aside0.mk (Kd.R_below (by (with_reducible repeat (first | apply Kd.R_alloc | apply Kd.R_drewN | apply Kd.R_drew)); exact HO308.out) hb); have n4_ := Aside0.mk (blk_below (g := gb274) (o := .cells #[.int .i64 t272, .int .i64 t273] 30 (0, 0)) (by (with_reducible repeat (first | refine blk_drewN ?_ _ | refine blk_drew ?_ | refine blk_alloc ?_ _)); exact BK274.out) hb); have n5_ := Aside0.mk (below_step (by repeat (first | (with_reducible first | exact HB.out | apply below_alloc | apply pw_below_drewN | apply below_drew1 | refine below_set ?_ GE274.out) | exact HB.out)) hb); clear HO_3; clear HO_8; clear HO305; clear HO308; clear BK274; clear HB; have HO_3 := n0_; have HO_8 := n1_; have HO305 := n2_; have HO308 := n3_; have BK274 := n4_; have HB := n5_; clear n0_ n1_ n2_ n3_ n4_ n5_; (try clear hb); (try clear hb2); (try clear hk); (try clear hi)) | (go_at_call 20; (with_reducible refine (impl_RootOf.calls kj46 _ _ y306 t310 t311 _ ?side1 ?side2 A61.out).mono ?_); (case side1 => repeat (first | exact (Kd.R_reads' HO308.out).2.2 | (with_reducible refine Kd.C_alloc ?_ _) | (with_reducible refine Kd.C_drewN ?_ _) | (with_reducible refine Kd.C_drew ?_))); (case side2 => exact (Kd.R_reads' HO308.out).2.1); rintro e w74 ⟨rfl, hb⟩; have n0_ := Aside0.mk (Kd.R_below (by (with_reducible repeat (first | apply Kd.R_alloc | apply Kd.R_drewN | apply Kd.R_drew)); exact HO_3.out) hb); have n1_ := Aside0.mk (Kd.R_below (by (with_reducible repeat (first | apply Kd.R_alloc | apply Kd.R_drewN | apply Kd.R_drew)); exact HO_8.out) hb); have n2_ := Aside0.mk (Kd.R_below (by (with_reducible repeat (first | apply Kd.R_alloc | apply Kd.R_drewN | apply Kd.R_drew)); exact HO305.out) hb); have n3_ := Aside0.mk (Kd.R_below (by (with_reducible repeat (first | apply Kd.R_alloc | apply Kd.R_drewN | apply Kd.R_drew)); exact HO308.out) hb); have n4_ := Aside0.mk (blk_below (g := gb274) (o := .cells #[.int .i64 t272, .int .i64 t273] 30 (0, 0)) (by (with_reducible repeat (first | refine blk_drewN ?_ _ | refine blk_drew ?_ | refine blk_alloc ?_ _)); exact BK274.out) hb); have n5_ := Aside0.mk (below_step (by repeat (first | (with_reducible first | exact HB.out | apply below_alloc | apply pw_below_drewN | apply below_drew1 | refine below_set ?_ GE274.out) | exact HB.out)) hb); clear HO_3; clear HO_8; clear HO305; clear HO308; clear BK274; clear HB; have HO_3 := n0_; have HO_8 := n1_; have HO305 := n2_; have HO308 := n3_; have BK274 := n4_; have HB := n5_; clear n0_ n1_ n2_ n3_ n4_ n5_; (try clear hb); (try clear hb2); (try clear hk); (try clear hi)) | (go_at_call 20; (with_reducible refine (impl_RootOf.calls kj46 _ _ t266 t312 t313 _ ?side1 ?side2 A62.out).mono ?_); (case side1 => repeat (first | exact (Kd.R_reads' HO_3.out).2.2 | (with_reducible refine Kd.C_alloc ?_ _) | (with_reducible refine Kd.C_drewN ?_ _) | (with_reducible refine Kd.C_drew ?_))); (case side2 => exact (Kd.R_reads' HO_3.out).2.1); rintro e w75 ⟨rfl, hb⟩; have n0_ := Aside0.mk (Kd.R_below (by (with_reducible repeat (first | apply Kd.R_alloc | apply Kd.R_drewN | apply Kd.R_drew)); exact HO_3.out) hb); have n1_ := Aside0.mk (Kd.R_below (by (with_reducible repeat (first | apply Kd.R_alloc | apply Kd.R_drewN | apply Kd.R_drew)); exact HO_8.out) hb); have n2_ := Aside0.mk (Kd.R_below (by (with_reducible repeat (first | apply Kd.R_alloc | apply Kd.R_drewN | apply Kd.R_drew)); exact HO305.out) hb); have n3_ := Aside0.mk (Kd.R_below (by (with_reducible repeat (first | apply Kd.R_alloc | apply Kd.R_drewN | apply Kd.R_drew)); exact HO308.out) hb); have n4_ := Aside0.mk (blk_below (g := gb274) (o := .cells #[.int .i64 t272, .int .i64 t273] 30 (0, 0)) (by (with_reducible repeat (first | refine blk_drewN ?_ _ | refine blk_drew ?_ | refine blk_alloc ?_ _)); exact BK274.out) hb); have n5_ := Aside0.mk (below_step (by repeat (first | (with_reducible first | exact HB.out | apply below_alloc | apply pw_below_drewN | apply below_drew1 | refine below_set ?_ GE274.out) | exact HB.out)) hb); clear HO_3; clear HO_8; clear HO305; clear HO308; clear BK274; clear HB; have HO_3 := n0_; have HO_8 := n1_; have HO305 := n2_; have HO308 := n3_; have BK274 := n4_; have HB := n5_; clear n0_ n1_ n2_ n3_ n4_ n5_; (try clear hb); (try clear hb2); (try clear hk); (try clear hi)))
                                    go_ret
                                    exact ⟨by first | rfl | (simp [errW_none, errW_some] <;> rfl) | (simp only [← hji55]; first | rfl | (simp [errW_none, errW_some] <;> rfl)) | (simp [*, errW_none, errW_some] <;> rfl), by repeat (first | (with_reducible first | exact HB.out | apply below_alloc | apply pw_below_drewN | apply below_drew1 | refine below_set ?_ GE274.out) | exact HB.out)⟩
                                  · replace c60 := Bool.eq_false_iff.mpr c60
                                    subst c60
                                    have H1 : (none) = some r := by rw [if_neg (show ¬ (false = true) by decide)] at H; exact H
                                    clear H
                                    have H := H1
                                    clear H1
                                    exact absurd H (by simp)
                                · rw [if_neg c58] at H
                                  exact absurd H (by simp)
                              · rw [if_neg c57] at H
                                exact absurd H (by simp)
                            · rw [if_neg c56] at H
                              exact absurd H (by simp)
                          · rw [if_neg c54] at H
                            exact absurd H (by simp)
                        · replace c53 := Bool.eq_false_iff.mpr c53
                          subst c53
                          have H1 : (if (t266.length : Int) = 3 then (some true) else ((impl_HasTwin.f kj46 y293).bind fun t314 => (some t314))) = some r := by rw [if_neg (show ¬ (false = true) by decide)] at H; exact H
                          clear H
                          have H := H1
                          clear H1
                          by_cases c76 : (t266.length : Int) = 3
                          · rw [if_pos c76] at H
                            have c76b0 : ((t266.length : Int) == 3) = true := beq_iff_eq.mpr c76
                            have c76b1 : ((t266.length : Int) != 3) = false := bne_eq_false_iff_eq.mpr c76
                            clear c76
                            obtain rfl := Option.some.inj H
                            go_wp2
                            go_ret
                            exact ⟨by first | rfl | (simp [errW_none, errW_some] <;> rfl) | (simp [*, errW_none, errW_some] <;> rfl), by repeat (first | (with_reducible first | exact HB.out | apply below_alloc | apply pw_below_drewN | apply below_drew1 | refine below_set ?_ GE274.out) | exact HB.out)⟩
                          · rw [if_neg c76] at H
                            have c76b0 : ((t266.length : Int) == 3) = false := beq_eq_false_iff_ne.mpr c76
                            have c76b1 : ((t266.length : Int) != 3) = true := bne_iff_ne.mpr c76
                            replace H := Option.bind_eq_some_iff.mp H
                            obtain ⟨t314, A770, H⟩ := H
                            replace H : (some t314) = some r := H
                            have A77 := Aside0.mk A770
                            clear A770
                            obtain rfl := Option.some.inj H
                            obtain ⟨Ao78, co78, eo78⟩ := Kd.R_slice HO_8.out
                            subst eo78
                            go_wp2_with (first | (go_at_call 15; (with_reducible refine (impl_HasTwin.calls kj46 (fun k_ => some k_ = (.slice Ao78 y293.length co78 : Value).ownBlock) _ _ y293 t314 _ ?side1 A77.out).mono ?_); (case side1 => exact Kd.R_V (Kd.R_tight rfl (Kd.R_types (HO_8.out) BK274.out (by decide)))); rintro e w79 ⟨rfl, hb⟩; have n0_ := Aside0.mk (Kd.R_below (by (with_reducible repeat (first | apply Kd.R_alloc | apply Kd.R_drewN | apply Kd.R_drew)); exact HO_3.out) hb); have n1_ := Aside0.mk (Kd.R_below (by (with_reducible repeat (first | apply Kd.R_alloc | apply Kd.R_drewN | apply Kd.R_drew)); exact HO_8.out) hb); have n2_ := Aside0.mk (blk_below (g := gb274) (o := .cells #[.int .i64 t272, .int .i64 t273] 30 (0, 0)) (by (with_reducible repeat (first | refine blk_drewN ?_ _ | refine blk_drew ?_ | refine blk_alloc ?_ _)); exact BK274.out) hb); have n3_ := Aside0.mk (below_step (by repeat (first | (with_reducible first | exact HB.out | apply below_alloc | apply pw_below_drewN | apply below_drew1 | refine below_set ?_ GE274.out) | exact HB.out)) hb); clear HO_3; clear HO_8; clear BK274; clear HB; have HO_3 := n0_; have HO_8 := n1_; have BK274 := n2_; have HB := n3_; clear n0_ n1_ n2_ n3_; (try clear hb); (try clear hb2); (try clear hk); (try clear hi)))
                            go_ret
                            exact ⟨by first | rfl | (simp [errW_none, errW_some] <;> rfl) | (simp [*, errW_none, errW_some] <;> rfl), by repeat (first | (with_reducible first | exact HB.out | apply below_alloc | apply pw_below_drewN | apply below_drew1 | refine below_set ?_ GE274.out) | exact HB.out)⟩
                  · rw [if_neg c46] at H
                    exact absurd H (by simp)
                · rw [if_neg c45] at H
                  exact absurd H (by simp)

/-- THE ONE PURE STATEMENT of laws_FnTwins: yours. -/
def laws_FnTwins.Pure : Prop := ∀ (l0 : List Int), l0.length ≤ maxLen → l0.length * 1 ≤ 140737488351232 → (∀ x ∈ l0, (Lit.int .u8 x).wf = true) → ∃ k, laws_FnTwins.f k l0 = some true
theorem laws_FnTwins.walk (P : laws_FnTwins.Pure) (a0 : Option Addr) (len0 cap0 : Nat) (z0 : List Int) (w : World) (w0 : (a0 = none ∧ len0 = 0 ∧ cap0 = 0 ∧ z0 = []) ∨ ∃ x, a0 = some x ∧ len0 ≤ cap0 ∧ cap0 ≤ maxLen ∧ z0.length = cap0 ∧ (∀ i, i < z0.length → w.cell? (x.add i) = some (.int .u8 (z0.getD i 0))) ∧ ∀ n ∈ z0, (Lit.int .u8 n).wf = true) (y0 : len0 * 1 ≤ 140737488351232) :
    Calls Try.prog 3 #[.slice a0 len0 cap0] w fun e w' => e = .returned (.bool true) ∧ Below w.heap.size w w' := by
  obtain ⟨l0, rfl, hr0, hm0, hw0, hc0⟩ := ReadsInt.ofRowC w0
  obtain ⟨k, h⟩ := P l0 hm0 y0 hw0
  refine (laws_FnTwins.calls k _ _ l0 true w (Kd.C_of_reads (d := (0 : Int)) (h1 := fun _ => rfl) hr0) hc0 h).mono ?_
  rintro e w' ⟨rfl, hd⟩
  exact ⟨rfl, hd⟩

end Go.Proofs.Ytjgnjhbleiempaa.QFnTwins
