-- written by this session's program (wip/tools/myprint.py)
import Derived.Test.YthjlbpgiaehjnaaDoorQFnCutsx0
import Derived.Test.YthjlbpgiaehjnaaDoorQFnCutsx2
import Derived.Test.YthjlbpgiaehjnaaDoorQFnCutsx3
import Derived.Test.YthjlbpgiaehjnaaDoorQFnCutsx5
import Derived.Test.YthjlbpgiaehjnaaDoorQFnCutsx7
import Derived.Test.YthjlbpgiaehjnaaDoorQFnCutsx11
import Derived.Test.YthjlbpgiaehjnaaDoorQFnCutsx12
import Derived.Test.YthjlbpgiaehjnaaDoorQFnCutsx13
-- squeezed
namespace Go.Proofs.YthjlbpgiaehjnaaDoor.QFnCuts
open Go.RowKit Go.Proofs.YthjlbpgiaehjnaaDoorW.PrintWords Go.Proofs.YthjlbpgiaehjnaaDoorW.PrintLast Go.Proofs.YthjlbpgiaehjnaaDoorW.PrintMore
attribute [local go_sem] max2_int min2_int max_two min_two max_three min_three max_four min_four   -- for this text's walks alone
set_option linter.unusedVariables false
set_option linter.unusedSimpArgs false
set_option maxHeartbeats 8000000
set_option maxRecDepth 100000
def laws_FnCuts.j0 : Nat → List Int → ByteArray → List Int → Bool → Int → List ByteArray → ByteArray → Option (Bool)
 | 0, _, _, _, _, _, _, _ => none
 | k + 1, x0, x3, x4, x57, x390000, x390001, x390002 => if x57 = true then (none) else (if x390000 = 0 then ((laws_lwAt.f x0 3 (wrap64 ((x4.length : Int) + 1))).bind fun t414 => (if 0 ≤ t414 then (if t414 ≤ (x4.length : Int) then ((impl_CutLines.f k x3 (x4.take (t414 : Int).toNat)).bind fun bt419 => ((impl_CutLines.f k bt419.2.2 (x4.drop (t414 : Int).toNat)).bind fun bt429 => (if bt419.1 = 0 then (if bt429.1 = 0 then (if bt429.2.2.toList = x390002.toList then ((some (([] : List ByteArray) : List ByteArray)).bind fun y435 => (if y435.length + bt419.2.1.length < 8796093022208 then ((some (y435 ++ bt419.2.1 : List ByteArray)).bind fun y438 => (if y438.length + bt429.2.1.length < 8796093022208 then ((laws_lwTexts.f k (y438 ++ bt429.2.1) x390001).bind fun t444 => (if t444 = true then ((spec_CutLines.f k x3 x4).bind fun bt445 => ((laws_lwTexts.f k x390001 bt445.2.1).bind fun t450 => (some t450))) else (none))) else (none))) else (none))) else (none)) else (none)) else (none)))) else (none)) else (none))) else ((spec_CutLines.f k x3 x4).bind fun bt409 => (some (bt409.1 == x390000))))
def laws_FnCuts.f (k : Nat) (l0 : List Int) : Option (Bool) := (laws_lwBig.f l0).bind fun t379 => (if t379 = true then (some true) else ((spec_DrawCutLines.f k l0).bind fun bt380 => ((impl_CutLines.f k bt380.1 bt380.2).bind fun bt384 => ((spec_DrawMapEntry.f k l0).bind fun bt390 => ((impl_MapEntry.f k bt390.1 bt390.2).bind fun bt394 => ((spec_MapEntry.f k bt390.1 bt390.2).bind fun bt399 => (if bt394.1 = bt399.1 then ((spec_MapEntry.f k bt390.1 bt390.2).bind fun bt403 => ((impl_SameVals.f k bt394.2 bt403.2).bind fun t407 => (if t407 = true then (if bt394.1 = 0 then ((impl_ValsFault.f k bt394.2).bind fun t408 => (laws_FnCuts.j0 k l0 bt380.1 bt380.2 (t408 != 0) bt384.1 bt384.2.1 bt384.2.2)) else (laws_FnCuts.j0 k l0 bt380.1 bt380.2 false bt384.1 bt384.2.1 bt384.2.2)) else (none)))) else (none))))))))
theorem laws_FnCuts.mono_l : ∀ k, (∀ y0 y1 y2 y3 y4 y5 y6, LeO (laws_FnCuts.j0 k y0 y1 y2 y3 y4 y5 y6) (laws_FnCuts.j0 (k + 1) y0 y1 y2 y3 y4 y5 y6))
 | 0 => fun _ _ _ _ _ _ _ r h => by simp [laws_FnCuts.j0] at h
 | k + 1 => by
  have ih0 := laws_FnCuts.mono_l k
  · intro y0 y1 y2 y3 y4 y5 y6
    unfold laws_FnCuts.j0
    repeat' with_reducible first | exact ih0 _ _ _ _ _ _ _ | exact impl_CutLines.mono _ _ _ | exact impl_MapEntry.mono _ _ _ | exact impl_SameVals.mono _ _ _ | exact impl_ValsFault.mono _ _ | exact laws_lwTexts.mono _ _ _ | exact spec_CutLines.mono _ _ _ | exact spec_DrawCutLines.mono _ _ | exact spec_DrawMapEntry.mono _ _ | exact spec_MapEntry.mono _ _ _ | exact LeO.refl _ | exact LeO.none _ | refine LeO.ite ?_ ?_ | refine LeO.bind ?_ (fun _ => ?_)
theorem laws_FnCuts.mono : ∀ a0 k, LeO (laws_FnCuts.f k a0) (laws_FnCuts.f (k + 1) a0) := by
 intro a0 k
 have ih0 := laws_FnCuts.mono_l k
 unfold laws_FnCuts.f
 repeat' with_reducible first | exact ih0 _ _ _ _ _ _ _ | exact impl_CutLines.mono _ _ _ | exact impl_MapEntry.mono _ _ _ | exact impl_SameVals.mono _ _ _ | exact impl_ValsFault.mono _ _ | exact laws_lwTexts.mono _ _ _ | exact spec_CutLines.mono _ _ _ | exact spec_DrawCutLines.mono _ _ | exact spec_DrawMapEntry.mono _ _ | exact spec_MapEntry.mono _ _ _ | exact LeO.refl _ | exact LeO.none _ | refine LeO.ite ?_ ?_ | refine LeO.bind ?_ (fun _ => ?_)
def laws_FnCuts.T7 : Bool × List (List Nat × List Nat) := (true, [([], []), ([0], [0]), ([], []), ([], []), ([2, 3], [2, 3]), ([4], [4]), ([1, 5], [1, 5]), ([6, 4], [6]), ([7], [7]), ([8, 7], [7, 8]), ([7], [7]), ([7], [7]), ([10, 11, 7, 7], [7, 10, 11]), ([12, 7], [7, 12]), ([9, 13, 12, 7], [7, 9, 13]), ([14, 7], [7, 14]), ([7, 15], [7, 15]), ([16, 14], [16]), ([17], [17]), ([18, 17], [17, 18]), ([19, 17], [17, 19]), ([20, 17, 17], [17, 20]), ([21], [21]), ([22, 21], [21, 22]), ([23, 21, 21], [21, 23]), ([24, 21], [21, 24]), ([21, 25, 17], [17, 21, 25]), ([17, 26], [17, 26])])
def laws_FnCuts.B7 : List Nat := [0, 1, 0, 0, 12, 28, 63, 127, 255, 511, 255, 255, 3327, 7423, 16383, 32767, 65535, 131071, 262143, 524287, 1048575, 2097151, 4194303, 8388607, 16777215, 33554431, 67108863, 134217727]
theorem laws_FnCuts.tab7 : rtab .any (opsOf Tryd.f7 7) = laws_FnCuts.T7 := by kernel_rfl
theorem laws_FnCuts.bits7 : waitsOk laws_FnCuts.T7.2 laws_FnCuts.B7 = true := by kernel_rfl
def laws_FnCuts.T10 : Bool × List (List Nat × List Nat) := (true, [([], []), ([], []), ([0, 1], [0, 1]), ([2], [2]), ([], []), ([4], [4]), ([3, 5], [3, 5]), ([6, 2, 0, 1, 2, 3, 4, 5, 6], [6])])
def laws_FnCuts.B10 : List Nat := [0, 0, 3, 7, 0, 16, 63, 127]
theorem laws_FnCuts.tab10 : rtab .any (opsOf Tryd.f7 10) = laws_FnCuts.T10 := by kernel_rfl
theorem laws_FnCuts.bits10 : waitsOk laws_FnCuts.T10.2 laws_FnCuts.B10 = true := by kernel_rfl
def laws_FnCuts.T13 : Bool × List (List Nat × List Nat) := (true, [([], []), ([0], [0]), ([], []), ([], []), ([2, 3], [2, 3]), ([1, 4], [1, 4]), ([], []), ([6, 5, 5, 0, 1, 2, 3, 4, 5, 6], [5, 6])])
def laws_FnCuts.B13 : List Nat := [0, 1, 0, 0, 12, 31, 0, 127]
theorem laws_FnCuts.tab13 : rtab .any (opsOf Tryd.f7 13) = laws_FnCuts.T13 := by kernel_rfl
theorem laws_FnCuts.bits13 : waitsOk laws_FnCuts.T13.2 laws_FnCuts.B13 = true := by kernel_rfl
def laws_FnCuts.T14 : Bool × List (List Nat × List Nat) := (true, [([], []), ([0], [0]), ([1], [1]), ([2], [2]), ([3], [3]), ([4, 3], [3, 4]), ([5, 3], [3, 5]), ([3, 6], [3, 6]), ([7, 3], [7]), ([8], [8]), ([9, 8], [8, 9]), ([8], [8]), ([11, 8], [8, 11]), ([10, 12, 8], [8, 10, 12]), ([8, 13], [8, 13]), ([14, 8], [14]), ([15], [15]), ([15], [15]), ([17, 15], [15, 17]), ([16, 18, 15, 15], [15, 16, 18]), ([15], [15]), ([20, 15], [15, 20]), ([19, 21, 19, 15], [15, 19, 21]), ([15], [15]), ([23, 15], [15, 23]), ([22, 24, 22, 15], [15, 22, 24]), ([15, 25], [15, 25]), ([26, 25], [26]), ([27], [27]), ([28, 27], [27, 28]), ([27], [27]), ([27], [27]), ([30, 31, 27, 27], [27, 30, 31]), ([32, 27], [27, 32]), ([29, 33, 32, 27], [27, 29, 33]), ([27, 34], [27, 34]), ([35, 34, 0, 1, 2, 3, 4, 5, 6, 7, 8, 9, 10, 11, 12, 13, 14, 15, 16, 17, 18, 19, 20, 21, 22, 23, 24, 25, 26, 27, 28, 29, 30, 31, 32, 33, 34, 35], [35])])
def laws_FnCuts.B14 : List Nat := [0, 1, 3, 7, 15, 31, 63, 127, 255, 511, 1023, 511, 2559, 8191, 16383, 32767, 65535, 65535, 196607, 524287, 65535, 1114111, 4194303, 65535, 8454143, 33554431, 67108863, 134217727, 268435455, 536870911, 268435455, 268435455, 3489660927, 7784628223, 17179869183, 34359738367, 68719476735]
theorem laws_FnCuts.tab14 : rtab .any (opsOf Tryd.f7 14) = laws_FnCuts.T14 := by kernel_rfl
theorem laws_FnCuts.bits14 : waitsOk laws_FnCuts.T14.2 laws_FnCuts.B14 = true := by kernel_rfl
theorem laws_FnCuts.calls (k : Nat) (A0 : Option Addr) (c0 : Nat) (l0 : List Int) (r : Bool) (w : World) (hr0 : Kd.C (Kd.int .u8) w A0 l0.length l0) (hc0 : l0.length ≤ c0) (h : laws_FnCuts.f k l0 = some r) (hV : ∃ m : Int, w.cell? ⟨3, 0, none⟩ = some (.int .i64 m)) :
 Calls Tryd.prog 7 #[.slice A0 l0.length c0] w fun e w' => e = .returned (.bool r) ∧ Below w.heap.size w w' := by
 have hfd58_0 : ∀ (c0 c1 : Value) (w : World), (Instr.field 58 (.agg #[c0, c1]) 0).run Tryd.prog w = .ok c0 w := by intro c0 c1 w; kernel_rfl
 have hfd58_1 : ∀ (c0 c1 : Value) (w : World), (Instr.field 58 (.agg #[c0, c1]) 1).run Tryd.prog w = .ok c1 w := by intro c0 c1 w; kernel_rfl
 have hfd53_0 : ∀ (c0 c1 c2 : Value) (w : World), (Instr.field 53 (.agg #[c0, c1, c2]) 0).run Tryd.prog w = .ok c0 w := by intro c0 c1 c2 w; kernel_rfl
 have hfd53_1 : ∀ (c0 c1 c2 : Value) (w : World), (Instr.field 53 (.agg #[c0, c1, c2]) 1).run Tryd.prog w = .ok c1 w := by intro c0 c1 c2 w; kernel_rfl
 have hu53 := Tryd.underlying53
 have hu58 := Tryd.underlying58
 have HR0 := am hr0; have HC0 := am hc0; clear hr0 hc0
 have HB := am (Below.refl w.heap.size w)
 have H : ((laws_lwBig.f l0).bind fun t379 => (if t379 = true then (some true) else ((spec_DrawCutLines.f k l0).bind fun bt380 => ((impl_CutLines.f k bt380.1 bt380.2).bind fun bt384 => ((spec_DrawMapEntry.f k l0).bind fun bt390 => ((impl_MapEntry.f k bt390.1 bt390.2).bind fun bt394 => ((spec_MapEntry.f k bt390.1 bt390.2).bind fun bt399 => (if bt394.1 = bt399.1 then ((spec_MapEntry.f k bt390.1 bt390.2).bind fun bt403 => ((impl_SameVals.f k bt394.2 bt403.2).bind fun t407 => (if t407 = true then (if bt394.1 = 0 then ((impl_ValsFault.f k bt394.2).bind fun t408 => (laws_FnCuts.j0 k l0 bt380.1 bt380.2 (t408 != 0) bt384.1 bt384.2.1 bt384.2.2)) else (laws_FnCuts.j0 k l0 bt380.1 bt380.2 false bt384.1 bt384.2.1 bt384.2.2)) else (none)))) else (none))))))))) = some r := h
 clear h
 obtain ⟨t379, A20, H⟩ := bO H
 replace H : (if t379 = true then (some true) else ((spec_DrawCutLines.f k l0).bind fun bt380 => ((impl_CutLines.f k bt380.1 bt380.2).bind fun bt384 => ((spec_DrawMapEntry.f k l0).bind fun bt390 => ((impl_MapEntry.f k bt390.1 bt390.2).bind fun bt394 => ((spec_MapEntry.f k bt390.1 bt390.2).bind fun bt399 => (if bt394.1 = bt399.1 then ((spec_MapEntry.f k bt390.1 bt390.2).bind fun bt403 => ((impl_SameVals.f k bt394.2 bt403.2).bind fun t407 => (if t407 = true then (if bt394.1 = 0 then ((impl_ValsFault.f k bt394.2).bind fun t408 => (laws_FnCuts.j0 k l0 bt380.1 bt380.2 (t408 != 0) bt384.1 bt384.2.1 bt384.2.2)) else (laws_FnCuts.j0 k l0 bt380.1 bt380.2 false bt384.1 bt384.2.1 bt384.2.2)) else (none)))) else (none)))))))) = some r := H
 have A2 := am A20; clear A20
 by_cases c3 : t379 = true
 · subst c3
   have H1 : (some true) = some r := by rw [if_pos rfl] at H; exact H
   clear H; have H := H1; clear H1
   obtain rfl := sj H
   go_enter Tryd.func7, Tryd.ntmps7
   go_wp2_with (first | ((with_reducible refine gC (f := 24) rfl ?_); refine goesL_ (some 13) rfl rfl Tryd.func24 (by kernel_rfl) rfl #[.slice A0 l0.length c0] rfl pA ?_; (with_reducible refine (laws_lwBig.calls _ _ l0 true _ ?side1 ?side2 A2.out).mono ?_); (case side1 => exact pC HR0.out); (case side2 => exact HC0.out); rintro e w' ⟨rfl, ⟨nd, rfl⟩⟩; refine ⟨_, rfl, ?_⟩))
   go_ret
   exact ⟨pE, pB⟩
 · replace c3 := Bool.eq_false_iff.mpr c3
   subst c3
   have H1 : ((spec_DrawCutLines.f k l0).bind fun bt380 => ((impl_CutLines.f k bt380.1 bt380.2).bind fun bt384 => ((spec_DrawMapEntry.f k l0).bind fun bt390 => ((impl_MapEntry.f k bt390.1 bt390.2).bind fun bt394 => ((spec_MapEntry.f k bt390.1 bt390.2).bind fun bt399 => (if bt394.1 = bt399.1 then ((spec_MapEntry.f k bt390.1 bt390.2).bind fun bt403 => ((impl_SameVals.f k bt394.2 bt403.2).bind fun t407 => (if t407 = true then (if bt394.1 = 0 then ((impl_ValsFault.f k bt394.2).bind fun t408 => (laws_FnCuts.j0 k l0 bt380.1 bt380.2 (t408 != 0) bt384.1 bt384.2.1 bt384.2.2)) else (laws_FnCuts.j0 k l0 bt380.1 bt380.2 false bt384.1 bt384.2.1 bt384.2.2)) else (none)))) else (none))))))) = some r := by rw [if_neg (show ¬ (false = true) by decide)] at H; exact H
   clear H; have H := H1; clear H1
   obtain ⟨⟨t380, t381⟩, A40, H⟩ := bO H
   replace H : ((impl_CutLines.f k t380 t381).bind fun bt384 => ((spec_DrawMapEntry.f k l0).bind fun bt390 => ((impl_MapEntry.f k bt390.1 bt390.2).bind fun bt394 => ((spec_MapEntry.f k bt390.1 bt390.2).bind fun bt399 => (if bt394.1 = bt399.1 then ((spec_MapEntry.f k bt390.1 bt390.2).bind fun bt403 => ((impl_SameVals.f k bt394.2 bt403.2).bind fun t407 => (if t407 = true then (if bt394.1 = 0 then ((impl_ValsFault.f k bt394.2).bind fun t408 => (laws_FnCuts.j0 k l0 t380 t381 (t408 != 0) bt384.1 bt384.2.1 bt384.2.2)) else (laws_FnCuts.j0 k l0 t380 t381 false bt384.1 bt384.2.1 bt384.2.2)) else (none)))) else (none)))))) = some r := H
   have A4 := am A40; clear A40
   obtain ⟨⟨t384, t385, t388⟩, A50, H⟩ := bO H
   replace H : ((spec_DrawMapEntry.f k l0).bind fun bt390 => ((impl_MapEntry.f k bt390.1 bt390.2).bind fun bt394 => ((spec_MapEntry.f k bt390.1 bt390.2).bind fun bt399 => (if bt394.1 = bt399.1 then ((spec_MapEntry.f k bt390.1 bt390.2).bind fun bt403 => ((impl_SameVals.f k bt394.2 bt403.2).bind fun t407 => (if t407 = true then (if bt394.1 = 0 then ((impl_ValsFault.f k bt394.2).bind fun t408 => (laws_FnCuts.j0 k l0 t380 t381 (t408 != 0) t384 t385 t388)) else (laws_FnCuts.j0 k l0 t380 t381 false t384 t385 t388)) else (none)))) else (none))))) = some r := H
   have A5 := am A50; clear A50
   obtain ⟨⟨t390, t391⟩, A60, H⟩ := bO H
   replace H : ((impl_MapEntry.f k t390 t391).bind fun bt394 => ((spec_MapEntry.f k t390 t391).bind fun bt399 => (if bt394.1 = bt399.1 then ((spec_MapEntry.f k t390 t391).bind fun bt403 => ((impl_SameVals.f k bt394.2 bt403.2).bind fun t407 => (if t407 = true then (if bt394.1 = 0 then ((impl_ValsFault.f k bt394.2).bind fun t408 => (laws_FnCuts.j0 k l0 t380 t381 (t408 != 0) t384 t385 t388)) else (laws_FnCuts.j0 k l0 t380 t381 false t384 t385 t388)) else (none)))) else (none)))) = some r := H
   have A6 := am A60; clear A60
   obtain ⟨⟨t394, t395⟩, A70, H⟩ := bO H
   replace H : ((spec_MapEntry.f k t390 t391).bind fun bt399 => (if t394 = bt399.1 then ((spec_MapEntry.f k t390 t391).bind fun bt403 => ((impl_SameVals.f k t395 bt403.2).bind fun t407 => (if t407 = true then (if t394 = 0 then ((impl_ValsFault.f k t395).bind fun t408 => (laws_FnCuts.j0 k l0 t380 t381 (t408 != 0) t384 t385 t388)) else (laws_FnCuts.j0 k l0 t380 t381 false t384 t385 t388)) else (none)))) else (none))) = some r := H
   have A7 := am A70; clear A70; have HC8 := am H; clear H
   go_enter Tryd.func7, Tryd.ntmps7
   go_upto_region 7 with (first | ((with_reducible refine gC (f := 24) rfl ?_); refine goesL_ (some 13) rfl rfl Tryd.func24 (by kernel_rfl) rfl #[.slice A0 l0.length c0] rfl pA ?_; (with_reducible refine (laws_lwBig.calls _ _ l0 false _ ?side1 ?side2 A2.out).mono ?_); (case side1 => exact pC HR0.out); (case side2 => exact HC0.out); rintro e w' ⟨rfl, ⟨nd, rfl⟩⟩; refine ⟨_, rfl, ?_⟩) | ((with_reducible refine gC (f := 25) rfl ?_); refine goesL_ (some 16) rfl rfl Tryd.func25 (by kernel_rfl) rfl #[.slice A0 l0.length c0] rfl pA ?_; (with_reducible refine (spec_DrawCutLines.calls k _ _ l0 t380 t381 _ ?side1 ?side2 A4.out).mono ?_); (case side1 => exact pC HR0.out); (case side2 => exact HC0.out); rintro e w9 ⟨v382, rfl, ho0, hb⟩; refine ⟨_, rfl, ?_⟩; have n_ := t2 (rL ho0 (bs_ pB)) (bz_ pB hb); clear HB; obtain ⟨HO383, HB⟩ := n_; (try clear hb); (try clear ho0); obtain ⟨Ao10, co10, eo10⟩ := rS HO383.out; subst eo10) | ((with_reducible refine gC (f := 26) rfl ?_); refine goesL_ (some 21) rfl rfl Tryd.func26 (by kernel_rfl) rfl #[.string t380, .slice Ao10 t381.length co10] rfl pA ?_; (with_reducible refine (impl_CutLines.calls k t380 _ _ t381 t384 t385 t388 _ ?side1 ?side2 A5.out (someInt_below hV pB)).mono ?_); (case side1 => exact pC (rr HO383.out).2.2); (case side2 => exact (rr HO383.out).2.1); rintro e w11 ⟨v386, rfl, ho0, hb⟩; refine ⟨_, rfl, ?_⟩; have n_ := t3 (Kd.R_below (pR HO383) hb) (rL ho0 (bs_ pB)) (bz_ pB hb); clear HO383 HB; obtain ⟨HO383, HO387, HB⟩ := n_; (try clear hb); (try clear ho0)) | ((with_reducible refine gate_dst (N := 5) rfl ?_); (try (refine gate_guard (by rfl) ?_; dsimp only)); refine box_event ?hg (N := 5) ?hd (cs := #[.int .i64 0, .slice none 0 0, .string (⟨#[]⟩ : ByteArray)]) (t := 53) ?hr ?_; (case hd => rfl); (case hg => rfl); (case hr => first | (go_simp; done) | (go_simp; rfl)); intro gb389 hg w12 hbox hb; have n_ := t6 (Kd.R_below (pR HO383) hb) (Kd.R_below (pR HO387) hb) (bz_ pB hb) (hbox) ((by rw [hg]; exact (bs_ pB) : w.heap.size ≤ gb389)) ((by rw [hg]; exact (bs_ pB) : w.heap.size ≤ gb389)); clear HO383 HO387 HB; obtain ⟨HO383, HO387, HB, BK389, GW389, GE389⟩ := n_; clear hb hbox hg; have hcz13_0 : w12.cell? ⟨gb389, 0, none⟩ = some (.int .i64 0) := (blk_cell BK389.out 0).trans rfl; have hcz13_1 : w12.cell? ⟨gb389, 1, none⟩ = some (.slice none 0 0) := (blk_cell BK389.out 1).trans rfl; have hcz13_2 : w12.cell? ⟨gb389, 2, none⟩ = some (.string (⟨#[]⟩ : ByteArray)) := (blk_cell BK389.out 2).trans rfl; have hfz13_0 := blk_frozen BK389.out 0; have hfz13_1 := blk_frozen BK389.out 1; have hfz13_2 := blk_frozen BK389.out 2; obtain ⟨Ao14, co14, eo14⟩ := rS HO387.out; subst eo14) | ((with_reducible refine gC (f := 27) rfl ?_); refine goesL_ (some 24) rfl rfl Tryd.func27 (by kernel_rfl) rfl #[.slice A0 l0.length c0] rfl pA ?_; (with_reducible refine (spec_DrawMapEntry.calls k _ _ l0 t390 t391 _ ?side1 ?side2 A6.out).mono ?_); (case side1 => exact Kd.C_below HR0.out pB); (case side2 => exact HC0.out); rintro e w15 ⟨v392, rfl, ho0, hb⟩; refine ⟨_, rfl, ?_⟩; have n_ := t5 (Kd.R_below (pT (Kd.R_mono (Kd.R_far (p := ⟨gb389, 2, none⟩) (Kd.R_far (p := ⟨gb389, 1, none⟩) (Kd.R_far (p := ⟨gb389, 0, none⟩) (Kd.R_types HO383.out BK389.out (by decide)) (fun _ hk => hk.2) (.int .i64 t384)) (fun _ hk => hk.2) (.slice Ao14 t385.length co14)) (fun _ hk => hk.2) (.string t388)) (fun _ h_ => h_.1))) hb) (Kd.R_below (pT (Kd.R_mono (Kd.R_far (p := ⟨gb389, 2, none⟩) (Kd.R_far (p := ⟨gb389, 1, none⟩) (Kd.R_far (p := ⟨gb389, 0, none⟩) (Kd.R_types HO387.out BK389.out (by decide)) (fun _ hk => hk.2) (.int .i64 t384)) (fun _ hk => hk.2) (.slice Ao14 t385.length co14)) (fun _ hk => hk.2) (.string t388)) (fun _ h_ => h_.1))) hb) (rL ho0 (bs_ pB)) (blk_below (g := gb389) (o := .cells #[.int .i64 t384, .slice Ao14 t385.length co14, .string t388] 53 (0, 0)) (by (with_reducible repeat (first | refine blk_drewN ?_ _ | refine blk_drew ?_ | refine blk_alloc ?_ _)); refine blk_put (cs := #[.int .i64 t384, .slice Ao14 t385.length co14, .string (⟨#[]⟩ : ByteArray)]) ?_ 2 _ rfl; (with_reducible repeat (first | refine blk_drewN ?_ _ | refine blk_drew ?_ | refine blk_alloc ?_ _)); refine blk_put (cs := #[.int .i64 t384, .slice none 0 0, .string (⟨#[]⟩ : ByteArray)]) ?_ 1 _ rfl; (with_reducible repeat (first | refine blk_drewN ?_ _ | refine blk_drew ?_ | refine blk_alloc ?_ _)); refine blk_put (cs := #[.int .i64 0, .slice none 0 0, .string (⟨#[]⟩ : ByteArray)]) ?_ 0 _ rfl; (with_reducible repeat (first | refine blk_drewN ?_ _ | refine blk_drew ?_ | refine blk_alloc ?_ _)); exact BK389.out) hb) (bz_ pB hb); clear HO383 HO387 BK389 HB; obtain ⟨HO383, HO387, HO393, BK389, HB⟩ := n_; (try clear hb); (try clear hk); (try clear ho0); obtain ⟨Ao16, co16, eo16⟩ := rS HO393.out; subst eo16) | ((with_reducible refine gC (f := 28) rfl ?_); refine goesL_ (some 29) rfl rfl Tryd.func28 (by kernel_rfl) rfl #[.slice Ao16 t390.length co16, .string t391] rfl pA ?_; (with_reducible refine (impl_MapEntry.calls k _ _ t390 t391 t394 t395 _ ?side1 ?side2 A7.out).mono ?_); (case side1 => exact pC (rr HO393.out).2.2); (case side2 => exact (rr HO393.out).2.1); rintro e w17 ⟨v396, rfl, ho0, hb⟩; refine ⟨_, rfl, ?_⟩; have n_ := t6 (Kd.R_below (pR HO383) hb) (Kd.R_below (pR HO387) hb) (rE (pR HO393) (rB ho0) hb) (rL (rW ho0 (Kd.R_lt (pR HO393))) (bs_ pB)) (blk_below (g := gb389) (o := .cells #[.int .i64 t384, .slice Ao14 t385.length co14, .string t388] 53 (0, 0)) (pK BK389) hb) (bz_ pB hb); clear HO383 HO387 HO393 BK389 HB; obtain ⟨HO383, HO387, HO393, HO397, BK389, HB⟩ := n_; (try clear hb); (try clear hk); (try clear ho0)) | ((with_reducible refine gate_dst (N := 8) rfl ?_); (try (refine gate_guard (by rfl) ?_; dsimp only)); refine box_event ?hg (N := 8) ?hd (cs := #[.int .i64 0, .slice none 0 0]) (t := 58) ?hr ?_; (case hd => rfl); (case hg => rfl); (case hr => first | (go_simp; done) | (go_simp; rfl)); intro gb398 hg w18 hbox hb; have n_ := t11 (Kd.R_below (pR HO383) hb) (Kd.R_below (pR HO387) hb) (Kd.R_below (pR HO393) hb) (Kd.R_below (pR HO397) hb) (blk_below (g := gb389) (o := .cells #[.int .i64 t384, .slice Ao14 t385.length co14, .string t388] 53 (0, 0)) (pK BK389) hb) (bz_ pB hb) (hbox) ((by rw [hg]; exact (bs_ pB) : w.heap.size ≤ gb398)) ((by rw [hg]; exact (bs_ pB) : w.heap.size ≤ gb398)) ((by rw [hg]; exact Nat.ne_of_lt (blk_lt (g := gb389) (o := .cells #[.int .i64 t384, .slice Ao14 t385.length co14, .string t388] 53 (0, 0)) (pK BK389)) : gb389 ≠ gb398)) ((by rw [hg]; exact Nat.ne_of_gt (blk_lt (g := gb389) (o := .cells #[.int .i64 t384, .slice Ao14 t385.length co14, .string t388] 53 (0, 0)) (pK BK389)) : gb398 ≠ gb389)); clear HO383 HO387 HO393 HO397 BK389 HB; obtain ⟨HO383, HO387, HO393, HO397, BK389, HB, BK398, GW398, GE398, NB389_398, NB398_389⟩ := n_; clear hb hbox hg; have hnb19 := NB398_389.out; have hnc19 := NB389_398.out; have hcz20_0 : w18.cell? ⟨gb398, 0, none⟩ = some (.int .i64 0) := (blk_cell BK398.out 0).trans rfl; have hcz20_1 : w18.cell? ⟨gb398, 1, none⟩ = some (.slice none 0 0) := (blk_cell BK398.out 1).trans rfl; have hfz20_0 := blk_frozen BK398.out 0; have hfz20_1 := blk_frozen BK398.out 1; obtain ⟨Ao21, co21, eo21⟩ := rS HO397.out; subst eo21))
   (try simp only [Act.put, List.setIfInBounds_toArray, List.set_cons_zero, List.set_cons_succ])
   go_cut [57] (fun v57 wc => ∃ (kq : Nat) (x57_7 : Bool), v57 = .bool x57_7 ∧ Aside0 (laws_FnCuts.j0 kq l0 t380 t381 x57_7 t384 t385 t388 = some r) ∧ Aside0 (kq ≤ k) ∧ Aside0 (Kd.R (Kd.int .u8) 5 wc w.heap.size (fun _ => True) (.slice Ao10 t381.length co10) t381) ∧ Aside0 (Kd.R Kd.string 9 wc w.heap.size (fun _ => True) (.slice Ao14 t385.length co14) t385) ∧ Aside0 (Kd.R k81 81 wc w.heap.size (fun _ => True) (.slice Ao21 t395.length co21) t395) ∧ Aside0 (wc.heap[gb389]? = some (.cells #[.int .i64 t384, (.slice Ao14 t385.length co14), .string t388] 53 (0, 0))) ∧ Aside0 (wc.heap[gb398]? = some (.cells #[.int .i64 t394, (.slice Ao21 t395.length co21)] 58 (0, 0))) ∧ Aside0 (Below w.heap.size w wc))
   case first =>
    have H := HC8.out
    clear HC8
    obtain ⟨⟨t399, t400⟩, A220, H⟩ := bO H
    replace H : (if t394 = t399 then ((spec_MapEntry.f k t390 t391).bind fun bt403 => ((impl_SameVals.f k t395 bt403.2).bind fun t407 => (if t407 = true then (if t394 = 0 then ((impl_ValsFault.f k t395).bind fun t408 => (laws_FnCuts.j0 k l0 t380 t381 (t408 != 0) t384 t385 t388)) else (laws_FnCuts.j0 k l0 t380 t381 false t384 t385 t388)) else (none)))) else (none)) = some r := H
    have A22 := am A220; clear A220
    by_cases c23 : t394 = t399
    · rw [if_pos c23] at H
      have c23b0 : (t394 == t399) = true := beq_iff_eq.mpr c23
      have c23b1 : (t394 != t399) = false := bne_eq_false_iff_eq.mpr c23
      clear c23
      (first | rw [c23b0] | (simp only [i64_w, i32_w]; rw [c23b0]) | skip)
      obtain ⟨⟨t403, t404⟩, A240, H⟩ := bO H
      replace H : ((impl_SameVals.f k t395 t404).bind fun t407 => (if t407 = true then (if t394 = 0 then ((impl_ValsFault.f k t395).bind fun t408 => (laws_FnCuts.j0 k l0 t380 t381 (t408 != 0) t384 t385 t388)) else (laws_FnCuts.j0 k l0 t380 t381 false t384 t385 t388)) else (none))) = some r := H
      have A24 := am A240; clear A240
      obtain ⟨t407, A250, H⟩ := bO H
      replace H : (if t407 = true then (if t394 = 0 then ((impl_ValsFault.f k t395).bind fun t408 => (laws_FnCuts.j0 k l0 t380 t381 (t408 != 0) t384 t385 t388)) else (laws_FnCuts.j0 k l0 t380 t381 false t384 t385 t388)) else (none)) = some r := H
      have A25 := am A250; clear A250
      by_cases c26 : t407 = true
      · subst c26
        have H1 : (if t394 = 0 then ((impl_ValsFault.f k t395).bind fun t408 => (laws_FnCuts.j0 k l0 t380 t381 (t408 != 0) t384 t385 t388)) else (laws_FnCuts.j0 k l0 t380 t381 false t384 t385 t388)) = some r := by rw [if_pos rfl] at H; exact H
        clear H; have H := H1; clear H1
        by_cases c27 : t394 = 0
        · rw [if_pos c27] at H
          have c27b0 : (t394 == 0) = true := beq_iff_eq.mpr c27
          have c27b1 : (t394 != 0) = false := bne_eq_false_iff_eq.mpr c27
          clear c27
          obtain ⟨t408, A280, H⟩ := bO H
          replace H : (laws_FnCuts.j0 k l0 t380 t381 (t408 != 0) t384 t385 t388) = some r := H
          have A28 := am A280; clear A280
          have H' := am H
          clear H
          try go_wp2
          have n0_ : Aside0 (Kd.R (Kd.int .u8) 5 ((w18.setCell ⟨gb398, 0, none⟩ (.int .i64 t394)).setCell ⟨gb398, 1, none⟩ (.slice Ao21 t395.length co21)) w.heap.size (fun _ => True) (.slice Ao10 t381.length co10) t381) := ⟨(pT (Kd.R_mono (Kd.R_far (p := ⟨gb398, 1, none⟩) (Kd.R_far (p := ⟨gb398, 0, none⟩) (Kd.R_types HO383.out BK398.out (by decide)) (fun _ hk => hk.2) (.int .i64 t394)) (fun _ hk => hk.2) (.slice Ao21 t395.length co21)) (fun _ hk => trivial)))⟩
          have n1_ : Aside0 (Kd.R Kd.string 9 ((w18.setCell ⟨gb398, 0, none⟩ (.int .i64 t394)).setCell ⟨gb398, 1, none⟩ (.slice Ao21 t395.length co21)) w.heap.size (fun _ => True) (.slice Ao14 t385.length co14) t385) := ⟨(pT (Kd.R_mono (Kd.R_far (p := ⟨gb398, 1, none⟩) (Kd.R_far (p := ⟨gb398, 0, none⟩) (Kd.R_types HO387.out BK398.out (by decide)) (fun _ hk => hk.2) (.int .i64 t394)) (fun _ hk => hk.2) (.slice Ao21 t395.length co21)) (fun _ hk => trivial)))⟩
          have n2_ : Aside0 (Kd.R k81 81 ((w18.setCell ⟨gb398, 0, none⟩ (.int .i64 t394)).setCell ⟨gb398, 1, none⟩ (.slice Ao21 t395.length co21)) w.heap.size (fun k_ => some k_ ≠ (.slice Ao21 t395.length co21 : Value).ownBlock) (.slice Ao16 t390.length co16) t390) := ⟨(pT (Kd.R_mono (Kd.R_far (p := ⟨gb398, 1, none⟩) (Kd.R_far (p := ⟨gb398, 0, none⟩) (Kd.R_types HO393.out BK398.out (by decide)) (fun _ hk => hk.2) (.int .i64 t394)) (fun _ hk => hk.2) (.slice Ao21 t395.length co21)) (fun _ hk => hk.1.2)))⟩
          have n3_ : Aside0 (Kd.R k81 81 ((w18.setCell ⟨gb398, 0, none⟩ (.int .i64 t394)).setCell ⟨gb398, 1, none⟩ (.slice Ao21 t395.length co21)) w.heap.size (fun k_ => some k_ ≠ (.slice Ao16 t390.length co16 : Value).ownBlock) (.slice Ao21 t395.length co21) t395) := ⟨(pT (Kd.R_mono (Kd.R_far (p := ⟨gb398, 1, none⟩) (Kd.R_far (p := ⟨gb398, 0, none⟩) (Kd.R_types HO397.out BK398.out (by decide)) (fun _ hk => hk.2) (.int .i64 t394)) (fun _ hk => hk.2) (.slice Ao21 t395.length co21)) (fun _ hk => hk.1.2)))⟩
          have n4_ : Aside0 (((w18.setCell ⟨gb398, 0, none⟩ (.int .i64 t394)).setCell ⟨gb398, 1, none⟩ (.slice Ao21 t395.length co21)).heap[gb389]? = some (.cells #[.int .i64 t384, .slice Ao14 t385.length co14, .string t388] 53 (0, 0))) := ⟨by (with_reducible repeat (first | refine blk_drewN ?_ _ | refine blk_drew ?_ | refine blk_alloc ?_ _)); refine blk_far ?_ NB389_398.out _; (with_reducible repeat (first | refine blk_drewN ?_ _ | refine blk_drew ?_ | refine blk_alloc ?_ _)); refine blk_far ?_ NB389_398.out _; (with_reducible repeat (first | refine blk_drewN ?_ _ | refine blk_drew ?_ | refine blk_alloc ?_ _)); exact BK389.out⟩
          have n5_ : Aside0 (((w18.setCell ⟨gb398, 0, none⟩ (.int .i64 t394)).setCell ⟨gb398, 1, none⟩ (.slice Ao21 t395.length co21)).heap[gb398]? = some (.cells #[.int .i64 t394, .slice Ao21 t395.length co21] 58 (0, 0))) := ⟨by (with_reducible repeat (first | refine blk_drewN ?_ _ | refine blk_drew ?_ | refine blk_alloc ?_ _)); refine blk_put (cs := #[.int .i64 t394, .slice none 0 0]) ?_ 1 _ rfl; (with_reducible repeat (first | refine blk_drewN ?_ _ | refine blk_drew ?_ | refine blk_alloc ?_ _)); refine blk_put (cs := #[.int .i64 0, .slice none 0 0]) ?_ 0 _ rfl; (with_reducible repeat (first | refine blk_drewN ?_ _ | refine blk_drew ?_ | refine blk_alloc ?_ _)); exact BK398.out⟩
          have n6_ : Aside0 (Below w.heap.size w ((w18.setCell ⟨gb398, 0, none⟩ (.int .i64 t394)).setCell ⟨gb398, 1, none⟩ (.slice Ao21 t395.length co21))) := ⟨pB⟩
          (try clear HO383); (try clear HO387); (try clear HO393); (try clear HO397); (try clear BK389); (try clear BK398); (try clear HB)
          generalize ((w18.setCell ⟨gb398, 0, none⟩ (.int .i64 t394)).setCell ⟨gb398, 1, none⟩ (.slice Ao21 t395.length co21)) = w29 at n0_ n1_ n2_ n3_ n4_ n5_ n6_ ⊢
          have HO383 := n0_
          have HO387 := n1_
          have HO393 := n2_
          have HO397 := n3_
          have BK389 := n4_
          have BK398 := n5_
          have HB := n6_
          clear n0_ n1_ n2_ n3_ n4_ n5_ n6_
          have n_ := t7 (Kd.R_drew HO383.out) (Kd.R_drew HO387.out) (Kd.R_drew HO393.out) (Kd.R_drew HO397.out) (blk_drew BK389.out) (blk_drew BK398.out) (below_drew1 HB.out)
          clear HO383 HO387 HO393 HO397 BK389 BK398 HB; obtain ⟨HO383, HO387, HO393, HO397, BK389, BK398, HB⟩ := n_
          refine start_ (n := 28) (S := fun w' => w'.cell? ⟨gb398, 0, none⟩ = some (.int .i64 t394) ∧ w'.cell? ⟨gb398, 1, none⟩ = some (.slice Ao21 t395.length co21)) (ds := []) #[false, false, false, false, false, false, false, false, false, false, false, false, false, false, false, false, false, false, false, false, false, false, false, false, false, false, false, false] (by kernel_rfl) rfl rfl ⟨(blk_cell BK398.out 0).trans rfl, (blk_cell BK398.out 1).trans rfl⟩ (fun hHeld => ?_); refine with_tabW laws_FnCuts.tab7 laws_FnCuts.bits7 (fun HT_ HW_ => ?_)
          generalize w29.drew = w30 at HO383 HO387 HO393 HO397 BK389 BK398 HB hHeld ⊢
          refine pure_ (i := 0) (N := some 30) (v := ?_) (a' := ?_) #[true, false, false, false, false, false, false, false, false, false, false, false, false, false, false, false, false, false, false, false, false, false, false, false, false, false, false, false] rfl rfl (any_of HT_.out (by kernel_rfl)) (fun _ _ _ h => h) (Or.inl ⟨by rfl, ?_⟩) ?_ ?_
          rotate_left
          · intro w'
            go_simp
            with_reducible rfl
          rotate_left
          · simp only [Act.put, List.setIfInBounds_toArray, List.set_cons_zero, List.set_cons_succ, i64_w, i32_w]
            rfl
          refine pure_ (i := 2) (N := some 32) (v := ?_) (a' := ?_) #[true, false, true, false, false, false, false, false, false, false, false, false, false, false, false, false, false, false, false, false, false, false, false, false, false, false, false, false] rfl rfl (any_of HT_.out (by kernel_rfl)) (fun _ _ _ h => h) (Or.inl ⟨by rfl, ?_⟩) ?_ ?_
          rotate_left
          · intro w'
            go_simp
            with_reducible rfl
          rotate_left
          · simp only [Act.put, List.setIfInBounds_toArray, List.set_cons_zero, List.set_cons_succ, i64_w, i32_w]
            rfl
          refine pure_ (i := 3) (N := some 33) (v := ?_) (a' := ?_) #[true, false, true, true, false, false, false, false, false, false, false, false, false, false, false, false, false, false, false, false, false, false, false, false, false, false, false, false] rfl rfl (any_of HT_.out (by kernel_rfl)) (fun _ _ _ h => h) (Or.inl ⟨by rfl, ?_⟩) ?_ ?_
          rotate_left
          · intro w'
            go_simp
            with_reducible rfl
          rotate_left
          · simp only [Act.put, List.setIfInBounds_toArray, List.set_cons_zero, List.set_cons_succ, i64_w, i32_w]
            rfl
          refine take_ (i := 1) (N := some 31) (v := ?_) (a' := ?_) #[true, true, true, true, false, false, false, false, false, false, false, false, false, false, false, false, false, false, false, false, false, false, false, false, false, false, false, false] rfl rfl (take_ofW HT_.out HW_.out (by kernel_rfl)) (fun _ _ _ h => h) (Or.inl ⟨by rfl, ?_⟩) hHeld ?_ ?_
          rotate_left
          · rintro w' ⟨s0, s1⟩
            go_simp
            with_reducible rfl
          rotate_left
          · simp only [Act.put, List.setIfInBounds_toArray, List.set_cons_zero, List.set_cons_succ, i64_w, i32_w]
            rfl
          refine one_ (i := 4) (N := some 34) #[true, true, true, true, true, false, false, false, false, false, false, false, false, false, false, false, false, false, false, false, false, false, false, false, false, false, false, false] rfl rfl (one_of HT_.out (by kernel_rfl)) (by decide) (fun K hK => ?_)
          refine goes_ Tryd.func29 (by kernel_rfl) rfl #[.slice Ao16 t390.length co16, .string t391] (by rfl) rfl rfl pA ?_
          with_reducible refine (spec_MapEntry.calls k _ _ t390 t391 t399 t400 _ ?side1 ?side2 A22.out).mono ?_
          (case side1 => exact pC (rr HO393.out).2.2)
          (case side2 => exact (rr HO393.out).2.1)
          rintro e w31 ⟨v401, rfl, ho0, hb⟩
          refine ⟨_, rfl, ?_⟩
          have n_ := t8 (Kd.R_below (pR HO383) hb) (Kd.R_below (pR HO387) hb) (rE (pR HO393) (rB ho0) hb) (rE (pR HO397) (rB ho0) hb) (rL (rW (rW ho0 (Kd.R_lt (pR HO393))) (Kd.R_lt (pR HO397))) (bs_ pB)) (blk_below (g := gb389) (o := .cells #[.int .i64 t384, .slice Ao14 t385.length co14, .string t388] 53 (0, 0)) (pK BK389) hb) (blk_below (g := gb398) (o := .cells #[.int .i64 t394, .slice Ao21 t395.length co21] 58 (0, 0)) (pK BK398) hb) (bz_ pB hb)
          clear HO383 HO387 HO393 HO397 BK389 BK398 HB; obtain ⟨HO383, HO387, HO393, HO397, HO402, BK389, BK398, HB⟩ := n_; (try clear hb); (try clear hb2); (try clear hk); (try clear hi); (try clear ho0)
          refine hK.out _ _ ⟨(blk_cell BK398.out 0).trans rfl, (blk_cell BK398.out 1).trans rfl⟩ (fun hHeld => ?_)
          clear hK K
          refine norm_ (a' := ?_) ?_ ?_
          rotate_left
          · show Act.put _ (some 34) _ = _
            simp only [Act.put, List.setIfInBounds_toArray, List.set_cons_zero, List.set_cons_succ, i64_w, i32_w]
            rfl
          refine pure_ (i := 5) (N := some 35) (v := ?_) (a' := ?_) #[true, true, true, true, true, true, false, false, false, false, false, false, false, false, false, false, false, false, false, false, false, false, false, false, false, false, false, false] rfl rfl (any_of HT_.out (by kernel_rfl)) (fun _ _ _ h => h) (Or.inl ⟨by rfl, ?_⟩) ?_ ?_
          rotate_left
          · intro w'
            go_simp
            with_reducible rfl
          rotate_left
          · simp only [Act.put, List.setIfInBounds_toArray, List.set_cons_zero, List.set_cons_succ, i64_w, i32_w]
            rfl
          refine pure_ (i := 6) (N := some 36) (v := ?_) (a' := ?_) #[true, true, true, true, true, true, true, false, false, false, false, false, false, false, false, false, false, false, false, false, false, false, false, false, false, false, false, false] rfl rfl (any_of HT_.out (by kernel_rfl)) (fun _ _ _ h => h) (Or.inl ⟨by rfl, ?_⟩) ?_ ?_
          rotate_left
          · intro w'
            go_simp
            with_reducible rfl
          rotate_left
          · simp only [Act.put, List.setIfInBounds_toArray, List.set_cons_zero, List.set_cons_succ, i64_w, i32_w]
            rfl
          refine pure_ (i := 7) (N := some 37) (v := ?_) (a' := ?_) #[true, true, true, true, true, true, true, true, false, false, false, false, false, false, false, false, false, false, false, false, false, false, false, false, false, false, false, false] rfl rfl (any_of HT_.out (by kernel_rfl)) (fun _ _ _ h => h) (Or.inl ⟨by rfl, ?_⟩) ?_ ?_
          rotate_left
          · intro w'
            go_simp
            with_reducible rfl
          rotate_left
          · simp only [Act.put, List.setIfInBounds_toArray, List.set_cons_zero, List.set_cons_succ, i64_w, i32_w]
            rfl
          refine pure_ (i := 8) (N := some 38) (v := ?_) (a' := ?_) #[true, true, true, true, true, true, true, true, true, false, false, false, false, false, false, false, false, false, false, false, false, false, false, false, false, false, false, false] rfl rfl (any_of HT_.out (by kernel_rfl)) (fun _ _ _ h => h) (Or.inl ⟨by rfl, ?_⟩) ?_ ?_
          rotate_left
          · intro w'
            go_simp
            with_reducible rfl
          rotate_left
          · simp only [Act.put, List.setIfInBounds_toArray, List.set_cons_zero, List.set_cons_succ, i64_w, i32_w]
            rfl
          refine pure_ (i := 10) (N := some 40) (v := ?_) (a' := ?_) #[true, true, true, true, true, true, true, true, true, false, true, false, false, false, false, false, false, false, false, false, false, false, false, false, false, false, false, false] rfl rfl (any_of HT_.out (by kernel_rfl)) (fun _ _ _ h => h) (Or.inl ⟨by rfl, ?_⟩) ?_ ?_
          rotate_left
          · intro w'
            go_simp
            with_reducible rfl
          rotate_left
          · simp only [Act.put, List.setIfInBounds_toArray, List.set_cons_zero, List.set_cons_succ, i64_w, i32_w]
            rfl
          refine pure_ (i := 11) (N := some 41) (v := ?_) (a' := ?_) #[true, true, true, true, true, true, true, true, true, false, true, true, false, false, false, false, false, false, false, false, false, false, false, false, false, false, false, false] rfl rfl (any_of HT_.out (by kernel_rfl)) (fun _ _ _ h => h) (Or.inl ⟨by rfl, ?_⟩) ?_ ?_
          rotate_left
          · intro w'
            go_simp
            with_reducible rfl
          rotate_left
          · simp only [Act.put, List.setIfInBounds_toArray, List.set_cons_zero, List.set_cons_succ, i64_w, i32_w]
            rfl
          refine take_ (i := 9) (N := some 39) (v := ?_) (a' := ?_) #[true, true, true, true, true, true, true, true, true, true, true, true, false, false, false, false, false, false, false, false, false, false, false, false, false, false, false, false] rfl rfl (take_ofW HT_.out HW_.out (by kernel_rfl)) (fun _ _ _ h => h) (Or.inl ⟨by rfl, ?_⟩) hHeld ?_ ?_
          rotate_left
          · rintro w' ⟨s0, s1⟩
            go_simp
            with_reducible rfl
          rotate_left
          · simp only [Act.put, List.setIfInBounds_toArray, List.set_cons_zero, List.set_cons_succ, i64_w, i32_w]
            rfl
          refine one_ (i := 12) (N := some 42) #[true, true, true, true, true, true, true, true, true, true, true, true, true, false, false, false, false, false, false, false, false, false, false, false, false, false, false, false] rfl rfl (one_of HT_.out (by kernel_rfl)) (by decide) (fun K hK => ?_)
          refine goes_ Tryd.func29 (by kernel_rfl) rfl #[.slice Ao16 t390.length co16, .string t391] (by rfl) rfl rfl pA ?_
          with_reducible refine (spec_MapEntry.calls k _ _ t390 t391 t403 t404 _ ?side1 ?side2 A24.out).mono ?_
          (case side1 => exact pC (rr HO393.out).2.2)
          (case side2 => exact (rr HO393.out).2.1)
          rintro e w32 ⟨v405, rfl, ho0, hb⟩
          refine ⟨_, rfl, ?_⟩
          have n_ := t9 (Kd.R_below (pR HO383) hb) (Kd.R_below (pR HO387) hb) (rE (pR HO393) (rB ho0) hb) (rE (pR HO397) (rB ho0) hb) (rE (pR HO402) (rB ho0) hb) (rL (rW (rW (rW ho0 (Kd.R_lt (pR HO393))) (Kd.R_lt (pR HO397))) (Kd.R_lt (pR HO402))) (bs_ pB)) (blk_below (g := gb389) (o := .cells #[.int .i64 t384, .slice Ao14 t385.length co14, .string t388] 53 (0, 0)) (pK BK389) hb) (blk_below (g := gb398) (o := .cells #[.int .i64 t394, .slice Ao21 t395.length co21] 58 (0, 0)) (pK BK398) hb) (bz_ pB hb)
          clear HO383 HO387 HO393 HO397 HO402 BK389 BK398 HB; obtain ⟨HO383, HO387, HO393, HO397, HO402, HO406, BK389, BK398, HB⟩ := n_; (try clear hb); (try clear hb2); (try clear hk); (try clear hi); (try clear ho0)
          obtain ⟨Ao33, co33, eo33⟩ := rS HO406.out
          (first | subst eo33 | (injection eo33 with f1_ f2_ f3_; have f4_ := f1_.symm; have f5_ := f3_.symm; clear f1_ f2_ f3_; subst f4_; subst f5_))
          refine hK.out _ _ ⟨(blk_cell BK398.out 0).trans rfl, (blk_cell BK398.out 1).trans rfl⟩ (fun hHeld => ?_)
          clear hK K
          refine norm_ (a' := ?_) ?_ ?_
          rotate_left
          · show Act.put _ (some 42) _ = _
            simp only [Act.put, List.setIfInBounds_toArray, List.set_cons_zero, List.set_cons_succ, i64_w, i32_w]
            rfl
          refine pure_ (i := 13) (N := some 43) (v := ?_) (a' := ?_) #[true, true, true, true, true, true, true, true, true, true, true, true, true, true, false, false, false, false, false, false, false, false, false, false, false, false, false, false] rfl rfl (any_of HT_.out (by kernel_rfl)) (fun _ _ _ h => h) (Or.inl ⟨by rfl, ?_⟩) ?_ ?_
          rotate_left
          · intro w'
            go_simp
            with_reducible rfl
          rotate_left
          · simp only [Act.put, List.setIfInBounds_toArray, List.set_cons_zero, List.set_cons_succ, i64_w, i32_w]
            rfl
          refine one_ (i := 14) (N := some 44) #[true, true, true, true, true, true, true, true, true, true, true, true, true, true, true, false, false, false, false, false, false, false, false, false, false, false, false, false] rfl rfl (one_of HT_.out (by kernel_rfl)) (by decide) (fun K hK => ?_)
          refine goes_ Tryd.func30 (by kernel_rfl) rfl #[.slice Ao21 t395.length co21, .slice Ao33 t404.length co33] (by rfl) rfl rfl pA ?_
          with_reducible refine (impl_SameVals.calls k _ _ t395 _ _ t404 true _ ?side1 ?side2 ?side3 ?side4 A25.out).mono ?_
          (case side1 => exact pC (rr HO397.out).2.2)
          (case side2 => exact (rr HO397.out).2.1)
          (case side3 => exact pC (rr HO406.out).2.2)
          (case side4 => exact (rr HO406.out).2.1)
          rintro e w' ⟨rfl, ⟨nd, rfl⟩⟩
          refine ⟨_, rfl, ?_⟩
          refine hK.out _ _ ⟨(blk_cell BK398.out 0).trans rfl, (blk_cell BK398.out 1).trans rfl⟩ (fun hHeld => ?_)
          clear hK K
          refine norm_ (a' := ?_) ?_ ?_
          rotate_left
          · show Act.put _ (some 44) _ = _
            simp only [Act.put, List.setIfInBounds_toArray, List.set_cons_zero, List.set_cons_succ, i64_w, i32_w]
            rfl
          refine pure_ (i := 15) (N := some 45) (v := ?_) (a' := ?_) #[true, true, true, true, true, true, true, true, true, true, true, true, true, true, true, true, false, false, false, false, false, false, false, false, false, false, false, false] rfl rfl (any_of HT_.out (by kernel_rfl)) (fun _ _ _ h => h) (Or.inl ⟨by rfl, ?_⟩) ?_ ?_
          rotate_left
          · intro w'
            go_simp
            with_reducible rfl
          rotate_left
          · simp only [Act.put, List.setIfInBounds_toArray, List.set_cons_zero, List.set_cons_succ, i64_w, i32_w]
            rfl
          refine pure_ (i := 16) (N := some 46) (v := ?_) (a' := ?_) #[true, true, true, true, true, true, true, true, true, true, true, true, true, true, true, true, true, false, false, false, false, false, false, false, false, false, false, false] rfl rfl (any_of HT_.out (by kernel_rfl)) (fun _ _ _ h => h) (Or.inl ⟨by rfl, ?_⟩) ?_ ?_
          rotate_left
          · intro w'
            go_simp
            with_reducible rfl
          rotate_left
          · simp only [Act.put, List.setIfInBounds_toArray, List.set_cons_zero, List.set_cons_succ, i64_w, i32_w]
            rfl
          refine pure_ (i := 17) (N := some 47) (v := ?_) (a' := ?_) #[true, true, true, true, true, true, true, true, true, true, true, true, true, true, true, true, true, true, false, false, false, false, false, false, false, false, false, false] rfl rfl (any_of HT_.out (by kernel_rfl)) (fun _ _ _ h => h) (Or.inl ⟨by rfl, ?_⟩) ?_ ?_
          rotate_left
          · intro w'
            go_simp
            with_reducible rfl
          rotate_left
          · simp only [Act.put, List.setIfInBounds_toArray, List.set_cons_zero, List.set_cons_succ, i64_w, i32_w]
            rfl
          refine pure_ (i := 18) (N := some 48) (v := ?_) (a' := ?_) #[true, true, true, true, true, true, true, true, true, true, true, true, true, true, true, true, true, true, true, false, false, false, false, false, false, false, false, false] rfl rfl (any_of HT_.out (by kernel_rfl)) (fun _ _ _ h => h) (Or.inl ⟨by rfl, ?_⟩) ?_ ?_
          rotate_left
          · intro w'
            go_simp
            with_reducible rfl
          rotate_left
          · simp only [Act.put, List.setIfInBounds_toArray, List.set_cons_zero, List.set_cons_succ, i64_w, i32_w]
            rfl
          refine take_ (i := 19) (N := some 49) (v := ?_) (a' := ?_) #[true, true, true, true, true, true, true, true, true, true, true, true, true, true, true, true, true, true, true, true, false, false, false, false, false, false, false, false] rfl rfl (take_ofW HT_.out HW_.out (by kernel_rfl)) (fun _ _ _ h => h) (Or.inl ⟨by rfl, ?_⟩) hHeld ?_ ?_
          rotate_left
          · rintro w' ⟨s0, s1⟩
            go_simp
            with_reducible rfl
          rotate_left
          · simp only [Act.put, List.setIfInBounds_toArray, List.set_cons_zero, List.set_cons_succ, i64_w, i32_w]
            rfl
          refine pure_ (i := 20) (N := some 50) (v := ?_) (a' := ?_) #[true, true, true, true, true, true, true, true, true, true, true, true, true, true, true, true, true, true, true, true, true, false, false, false, false, false, false, false] rfl rfl (any_of HT_.out (by kernel_rfl)) (fun _ _ _ h => h) (Or.inl ⟨by rfl, ?_⟩) ?_ ?_
          rotate_left
          · intro w'
            go_simp
            with_reducible rfl
          rotate_left
          · simp only [Act.put, List.setIfInBounds_toArray, List.set_cons_zero, List.set_cons_succ, i64_w, i32_w]
            rfl
          refine pure_ (i := 21) (N := some 51) (v := ?_) (a' := ?_) #[true, true, true, true, true, true, true, true, true, true, true, true, true, true, true, true, true, true, true, true, true, true, false, false, false, false, false, false] rfl rfl (any_of HT_.out (by kernel_rfl)) (fun _ _ _ h => h) (Or.inl ⟨by rfl, ?_⟩) ?_ ?_
          rotate_left
          · intro w'
            go_simp
            with_reducible rfl
          rotate_left
          · simp only [Act.put, List.setIfInBounds_toArray, List.set_cons_zero, List.set_cons_succ, i64_w, i32_w]
            rfl
          refine pure_ (i := 22) (N := some 52) (v := ?_) (a' := ?_) #[true, true, true, true, true, true, true, true, true, true, true, true, true, true, true, true, true, true, true, true, true, true, true, false, false, false, false, false] rfl rfl (any_of HT_.out (by kernel_rfl)) (fun _ _ _ h => h) (Or.inl ⟨by rfl, ?_⟩) ?_ ?_
          rotate_left
          · intro w'
            go_simp
            with_reducible rfl
          rotate_left
          · simp only [Act.put, List.setIfInBounds_toArray, List.set_cons_zero, List.set_cons_succ, i64_w, i32_w]
            rfl
          refine take_ (i := 23) (N := some 53) (v := ?_) (a' := ?_) #[true, true, true, true, true, true, true, true, true, true, true, true, true, true, true, true, true, true, true, true, true, true, true, true, false, false, false, false] rfl rfl (take_ofW HT_.out HW_.out (by kernel_rfl)) (fun _ _ _ h => h) (Or.inl ⟨by rfl, ?_⟩) hHeld ?_ ?_
          rotate_left
          · rintro w' ⟨s0, s1⟩
            go_simp
            with_reducible rfl
          rotate_left
          · simp only [Act.put, List.setIfInBounds_toArray, List.set_cons_zero, List.set_cons_succ, i64_w, i32_w]
            rfl
          refine one_ (i := 24) (N := some 54) #[true, true, true, true, true, true, true, true, true, true, true, true, true, true, true, true, true, true, true, true, true, true, true, true, true, false, false, false] rfl rfl (one_of HT_.out (by kernel_rfl)) (by decide) (fun K hK => ?_)
          refine goes_ Tryd.func31 (by kernel_rfl) rfl #[.slice Ao21 t395.length co21] (by rfl) rfl rfl pA ?_
          with_reducible refine (impl_ValsFault.calls k _ _ t395 t408 _ ?side1 ?side2 A28.out).mono ?_
          (case side1 => exact pC (rr HO397.out).2.2)
          (case side2 => exact (rr HO397.out).2.1)
          rintro e w34 ⟨rfl, hb⟩
          refine ⟨_, rfl, ?_⟩
          have n_ := t9 (Kd.R_below (pR HO383) hb) (Kd.R_below (pR HO387) hb) (Kd.R_below (pR HO393) hb) (Kd.R_below (pR HO397) hb) (Kd.R_below (pR HO402) hb) (Kd.R_below (pR HO406) hb) (blk_below (g := gb389) (o := .cells #[.int .i64 t384, .slice Ao14 t385.length co14, .string t388] 53 (0, 0)) (pK BK389) hb) (blk_below (g := gb398) (o := .cells #[.int .i64 t394, .slice Ao21 t395.length co21] 58 (0, 0)) (pK BK398) hb) (bz_ pB hb)
          clear HO383 HO387 HO393 HO397 HO402 HO406 BK389 BK398 HB; obtain ⟨HO383, HO387, HO393, HO397, HO402, HO406, BK389, BK398, HB⟩ := n_; (try clear hb); (try clear hb2); (try clear hk); (try clear hi)
          refine hK.out _ _ ⟨(blk_cell BK398.out 0).trans rfl, (blk_cell BK398.out 1).trans rfl⟩ (fun hHeld => ?_)
          clear hK K
          refine norm_ (a' := ?_) ?_ ?_
          rotate_left
          · show Act.put _ (some 54) _ = _
            simp only [Act.put, List.setIfInBounds_toArray, List.set_cons_zero, List.set_cons_succ, i64_w, i32_w]
            rfl
          refine pure_ (i := 25) (N := some 55) (v := ?_) (a' := ?_) #[true, true, true, true, true, true, true, true, true, true, true, true, true, true, true, true, true, true, true, true, true, true, true, true, true, true, false, false] rfl rfl (any_of HT_.out (by kernel_rfl)) (fun _ _ _ h => h) (Or.inl ⟨by rfl, ?_⟩) ?_ ?_
          rotate_left
          · intro w'
            go_simp
            with_reducible rfl
          rotate_left
          · simp only [Act.put, List.setIfInBounds_toArray, List.set_cons_zero, List.set_cons_succ, i64_w, i32_w]
            rfl
          refine pure_ (i := 26) (N := some 56) (v := ?_) (a' := ?_) #[true, true, true, true, true, true, true, true, true, true, true, true, true, true, true, true, true, true, true, true, true, true, true, true, true, true, true, false] rfl rfl (any_of HT_.out (by kernel_rfl)) (fun _ _ _ h => h) (Or.inl ⟨by rfl, ?_⟩) ?_ ?_
          rotate_left
          · intro w'
            go_simp
            with_reducible rfl
          rotate_left
          · simp only [Act.put, List.setIfInBounds_toArray, List.set_cons_zero, List.set_cons_succ, i64_w, i32_w]
            rfl
          refine pure_ (i := 27) (N := some 57) (v := ?_) (a' := ?_) #[true, true, true, true, true, true, true, true, true, true, true, true, true, true, true, true, true, true, true, true, true, true, true, true, true, true, true, true] rfl rfl (any_of HT_.out (by kernel_rfl)) (fun _ _ _ h => h) (Or.inl ⟨by rfl, ?_⟩) ?_ ?_
          rotate_left
          · intro w'
            go_simp
            with_reducible rfl
          rotate_left
          · simp only [Act.put, List.setIfInBounds_toArray, List.set_cons_zero, List.set_cons_succ, i64_w, i32_w]
            rfl
          refine done_ (done_of HT_.out (by kernel_rfl)) ?_
          try go_wp2
          go_meet
          case rel => exact ⟨_, ((t408 != 0)), pF, H', ⟨by first | omega | exact Nat.le_refl _⟩, ⟨(pR HO383)⟩, ⟨(pR HO387)⟩, ⟨(pT (Kd.R_mono HO397.out (fun _ hk => trivial)))⟩, ⟨(pK BK389)⟩, ⟨(pK BK398)⟩, ⟨pB⟩⟩
        · rw [if_neg c27] at H
          have c27b0 : (t394 == 0) = false := beq_eq_false_iff_ne.mpr c27
          have c27b1 : (t394 != 0) = true := bne_iff_ne.mpr c27
          have H' := am H
          clear H
          try go_wp2
          have n0_ : Aside0 (Kd.R (Kd.int .u8) 5 ((w18.setCell ⟨gb398, 0, none⟩ (.int .i64 t394)).setCell ⟨gb398, 1, none⟩ (.slice Ao21 t395.length co21)) w.heap.size (fun _ => True) (.slice Ao10 t381.length co10) t381) := ⟨(pT (Kd.R_mono (Kd.R_far (p := ⟨gb398, 1, none⟩) (Kd.R_far (p := ⟨gb398, 0, none⟩) (Kd.R_types HO383.out BK398.out (by decide)) (fun _ hk => hk.2) (.int .i64 t394)) (fun _ hk => hk.2) (.slice Ao21 t395.length co21)) (fun _ hk => trivial)))⟩
          have n1_ : Aside0 (Kd.R Kd.string 9 ((w18.setCell ⟨gb398, 0, none⟩ (.int .i64 t394)).setCell ⟨gb398, 1, none⟩ (.slice Ao21 t395.length co21)) w.heap.size (fun _ => True) (.slice Ao14 t385.length co14) t385) := ⟨(pT (Kd.R_mono (Kd.R_far (p := ⟨gb398, 1, none⟩) (Kd.R_far (p := ⟨gb398, 0, none⟩) (Kd.R_types HO387.out BK398.out (by decide)) (fun _ hk => hk.2) (.int .i64 t394)) (fun _ hk => hk.2) (.slice Ao21 t395.length co21)) (fun _ hk => trivial)))⟩
          have n2_ : Aside0 (Kd.R k81 81 ((w18.setCell ⟨gb398, 0, none⟩ (.int .i64 t394)).setCell ⟨gb398, 1, none⟩ (.slice Ao21 t395.length co21)) w.heap.size (fun k_ => some k_ ≠ (.slice Ao21 t395.length co21 : Value).ownBlock) (.slice Ao16 t390.length co16) t390) := ⟨(pT (Kd.R_mono (Kd.R_far (p := ⟨gb398, 1, none⟩) (Kd.R_far (p := ⟨gb398, 0, none⟩) (Kd.R_types HO393.out BK398.out (by decide)) (fun _ hk => hk.2) (.int .i64 t394)) (fun _ hk => hk.2) (.slice Ao21 t395.length co21)) (fun _ hk => hk.1.2)))⟩
          have n3_ : Aside0 (Kd.R k81 81 ((w18.setCell ⟨gb398, 0, none⟩ (.int .i64 t394)).setCell ⟨gb398, 1, none⟩ (.slice Ao21 t395.length co21)) w.heap.size (fun k_ => some k_ ≠ (.slice Ao16 t390.length co16 : Value).ownBlock) (.slice Ao21 t395.length co21) t395) := ⟨(pT (Kd.R_mono (Kd.R_far (p := ⟨gb398, 1, none⟩) (Kd.R_far (p := ⟨gb398, 0, none⟩) (Kd.R_types HO397.out BK398.out (by decide)) (fun _ hk => hk.2) (.int .i64 t394)) (fun _ hk => hk.2) (.slice Ao21 t395.length co21)) (fun _ hk => hk.1.2)))⟩
          have n4_ : Aside0 (((w18.setCell ⟨gb398, 0, none⟩ (.int .i64 t394)).setCell ⟨gb398, 1, none⟩ (.slice Ao21 t395.length co21)).heap[gb389]? = some (.cells #[.int .i64 t384, .slice Ao14 t385.length co14, .string t388] 53 (0, 0))) := ⟨by (with_reducible repeat (first | refine blk_drewN ?_ _ | refine blk_drew ?_ | refine blk_alloc ?_ _)); refine blk_far ?_ NB389_398.out _; (with_reducible repeat (first | refine blk_drewN ?_ _ | refine blk_drew ?_ | refine blk_alloc ?_ _)); refine blk_far ?_ NB389_398.out _; (with_reducible repeat (first | refine blk_drewN ?_ _ | refine blk_drew ?_ | refine blk_alloc ?_ _)); exact BK389.out⟩
          have n5_ : Aside0 (((w18.setCell ⟨gb398, 0, none⟩ (.int .i64 t394)).setCell ⟨gb398, 1, none⟩ (.slice Ao21 t395.length co21)).heap[gb398]? = some (.cells #[.int .i64 t394, .slice Ao21 t395.length co21] 58 (0, 0))) := ⟨by (with_reducible repeat (first | refine blk_drewN ?_ _ | refine blk_drew ?_ | refine blk_alloc ?_ _)); refine blk_put (cs := #[.int .i64 t394, .slice none 0 0]) ?_ 1 _ rfl; (with_reducible repeat (first | refine blk_drewN ?_ _ | refine blk_drew ?_ | refine blk_alloc ?_ _)); refine blk_put (cs := #[.int .i64 0, .slice none 0 0]) ?_ 0 _ rfl; (with_reducible repeat (first | refine blk_drewN ?_ _ | refine blk_drew ?_ | refine blk_alloc ?_ _)); exact BK398.out⟩
          have n6_ : Aside0 (Below w.heap.size w ((w18.setCell ⟨gb398, 0, none⟩ (.int .i64 t394)).setCell ⟨gb398, 1, none⟩ (.slice Ao21 t395.length co21))) := ⟨pB⟩
          (try clear HO383); (try clear HO387); (try clear HO393); (try clear HO397); (try clear BK389); (try clear BK398); (try clear HB)
          generalize ((w18.setCell ⟨gb398, 0, none⟩ (.int .i64 t394)).setCell ⟨gb398, 1, none⟩ (.slice Ao21 t395.length co21)) = w35 at n0_ n1_ n2_ n3_ n4_ n5_ n6_ ⊢
          have HO383 := n0_
          have HO387 := n1_
          have HO393 := n2_
          have HO397 := n3_
          have BK389 := n4_
          have BK398 := n5_
          have HB := n6_
          clear n0_ n1_ n2_ n3_ n4_ n5_ n6_
          have n_ := t7 (Kd.R_drew HO383.out) (Kd.R_drew HO387.out) (Kd.R_drew HO393.out) (Kd.R_drew HO397.out) (blk_drew BK389.out) (blk_drew BK398.out) (below_drew1 HB.out)
          clear HO383 HO387 HO393 HO397 BK389 BK398 HB; obtain ⟨HO383, HO387, HO393, HO397, BK389, BK398, HB⟩ := n_
          refine start_ (n := 28) (S := fun w' => w'.cell? ⟨gb398, 0, none⟩ = some (.int .i64 t394) ∧ w'.cell? ⟨gb398, 1, none⟩ = some (.slice Ao21 t395.length co21)) (ds := []) #[false, false, false, false, false, false, false, false, false, false, false, false, false, false, false, false, false, false, false, false, false, false, false, false, false, false, false, false] (by kernel_rfl) rfl rfl ⟨(blk_cell BK398.out 0).trans rfl, (blk_cell BK398.out 1).trans rfl⟩ (fun hHeld => ?_); refine with_tabW laws_FnCuts.tab7 laws_FnCuts.bits7 (fun HT_ HW_ => ?_)
          generalize w35.drew = w36 at HO383 HO387 HO393 HO397 BK389 BK398 HB hHeld ⊢
          refine pure_ (i := 0) (N := some 30) (v := ?_) (a' := ?_) #[true, false, false, false, false, false, false, false, false, false, false, false, false, false, false, false, false, false, false, false, false, false, false, false, false, false, false, false] rfl rfl (any_of HT_.out (by kernel_rfl)) (fun _ _ _ h => h) (Or.inl ⟨by rfl, ?_⟩) ?_ ?_
          rotate_left
          · intro w'
            go_simp
            with_reducible rfl
          rotate_left
          · simp only [Act.put, List.setIfInBounds_toArray, List.set_cons_zero, List.set_cons_succ, i64_w, i32_w]
            rfl
          refine pure_ (i := 2) (N := some 32) (v := ?_) (a' := ?_) #[true, false, true, false, false, false, false, false, false, false, false, false, false, false, false, false, false, false, false, false, false, false, false, false, false, false, false, false] rfl rfl (any_of HT_.out (by kernel_rfl)) (fun _ _ _ h => h) (Or.inl ⟨by rfl, ?_⟩) ?_ ?_
          rotate_left
          · intro w'
            go_simp
            with_reducible rfl
          rotate_left
          · simp only [Act.put, List.setIfInBounds_toArray, List.set_cons_zero, List.set_cons_succ, i64_w, i32_w]
            rfl
          refine pure_ (i := 3) (N := some 33) (v := ?_) (a' := ?_) #[true, false, true, true, false, false, false, false, false, false, false, false, false, false, false, false, false, false, false, false, false, false, false, false, false, false, false, false] rfl rfl (any_of HT_.out (by kernel_rfl)) (fun _ _ _ h => h) (Or.inl ⟨by rfl, ?_⟩) ?_ ?_
          rotate_left
          · intro w'
            go_simp
            with_reducible rfl
          rotate_left
          · simp only [Act.put, List.setIfInBounds_toArray, List.set_cons_zero, List.set_cons_succ, i64_w, i32_w]
            rfl
          refine take_ (i := 1) (N := some 31) (v := ?_) (a' := ?_) #[true, true, true, true, false, false, false, false, false, false, false, false, false, false, false, false, false, false, false, false, false, false, false, false, false, false, false, false] rfl rfl (take_ofW HT_.out HW_.out (by kernel_rfl)) (fun _ _ _ h => h) (Or.inl ⟨by rfl, ?_⟩) hHeld ?_ ?_
          rotate_left
          · rintro w' ⟨s0, s1⟩
            go_simp
            with_reducible rfl
          rotate_left
          · simp only [Act.put, List.setIfInBounds_toArray, List.set_cons_zero, List.set_cons_succ, i64_w, i32_w]
            rfl
          refine one_ (i := 4) (N := some 34) #[true, true, true, true, true, false, false, false, false, false, false, false, false, false, false, false, false, false, false, false, false, false, false, false, false, false, false, false] rfl rfl (one_of HT_.out (by kernel_rfl)) (by decide) (fun K hK => ?_)
          refine goes_ Tryd.func29 (by kernel_rfl) rfl #[.slice Ao16 t390.length co16, .string t391] (by rfl) rfl rfl pA ?_
          with_reducible refine (spec_MapEntry.calls k _ _ t390 t391 t399 t400 _ ?side1 ?side2 A22.out).mono ?_
          (case side1 => exact pC (rr HO393.out).2.2)
          (case side2 => exact (rr HO393.out).2.1)
          rintro e w37 ⟨v401, rfl, ho0, hb⟩
          refine ⟨_, rfl, ?_⟩
          have n_ := t8 (Kd.R_below (pR HO383) hb) (Kd.R_below (pR HO387) hb) (rE (pR HO393) (rB ho0) hb) (rE (pR HO397) (rB ho0) hb) (rL (rW (rW ho0 (Kd.R_lt (pR HO393))) (Kd.R_lt (pR HO397))) (bs_ pB)) (blk_below (g := gb389) (o := .cells #[.int .i64 t384, .slice Ao14 t385.length co14, .string t388] 53 (0, 0)) (pK BK389) hb) (blk_below (g := gb398) (o := .cells #[.int .i64 t394, .slice Ao21 t395.length co21] 58 (0, 0)) (pK BK398) hb) (bz_ pB hb)
          clear HO383 HO387 HO393 HO397 BK389 BK398 HB; obtain ⟨HO383, HO387, HO393, HO397, HO402, BK389, BK398, HB⟩ := n_; (try clear hb); (try clear hb2); (try clear hk); (try clear hi); (try clear ho0)
          refine hK.out _ _ ⟨(blk_cell BK398.out 0).trans rfl, (blk_cell BK398.out 1).trans rfl⟩ (fun hHeld => ?_)
          clear hK K
          refine norm_ (a' := ?_) ?_ ?_
          rotate_left
          · show Act.put _ (some 34) _ = _
            simp only [Act.put, List.setIfInBounds_toArray, List.set_cons_zero, List.set_cons_succ, i64_w, i32_w]
            rfl
          refine pure_ (i := 5) (N := some 35) (v := ?_) (a' := ?_) #[true, true, true, true, true, true, false, false, false, false, false, false, false, false, false, false, false, false, false, false, false, false, false, false, false, false, false, false] rfl rfl (any_of HT_.out (by kernel_rfl)) (fun _ _ _ h => h) (Or.inl ⟨by rfl, ?_⟩) ?_ ?_
          rotate_left
          · intro w'
            go_simp
            with_reducible rfl
          rotate_left
          · simp only [Act.put, List.setIfInBounds_toArray, List.set_cons_zero, List.set_cons_succ, i64_w, i32_w]
            rfl
          refine pure_ (i := 6) (N := some 36) (v := ?_) (a' := ?_) #[true, true, true, true, true, true, true, false, false, false, false, false, false, false, false, false, false, false, false, false, false, false, false, false, false, false, false, false] rfl rfl (any_of HT_.out (by kernel_rfl)) (fun _ _ _ h => h) (Or.inl ⟨by rfl, ?_⟩) ?_ ?_
          rotate_left
          · intro w'
            go_simp
            with_reducible rfl
          rotate_left
          · simp only [Act.put, List.setIfInBounds_toArray, List.set_cons_zero, List.set_cons_succ, i64_w, i32_w]
            rfl
          refine pure_ (i := 7) (N := some 37) (v := ?_) (a' := ?_) #[true, true, true, true, true, true, true, true, false, false, false, false, false, false, false, false, false, false, false, false, false, false, false, false, false, false, false, false] rfl rfl (any_of HT_.out (by kernel_rfl)) (fun _ _ _ h => h) (Or.inl ⟨by rfl, ?_⟩) ?_ ?_
          rotate_left
          · intro w'
            go_simp
            with_reducible rfl
          rotate_left
          · simp only [Act.put, List.setIfInBounds_toArray, List.set_cons_zero, List.set_cons_succ, i64_w, i32_w]
            rfl
          refine pure_ (i := 8) (N := some 38) (v := ?_) (a' := ?_) #[true, true, true, true, true, true, true, true, true, false, false, false, false, false, false, false, false, false, false, false, false, false, false, false, false, false, false, false] rfl rfl (any_of HT_.out (by kernel_rfl)) (fun _ _ _ h => h) (Or.inl ⟨by rfl, ?_⟩) ?_ ?_
          rotate_left
          · intro w'
            go_simp
            with_reducible rfl
          rotate_left
          · simp only [Act.put, List.setIfInBounds_toArray, List.set_cons_zero, List.set_cons_succ, i64_w, i32_w]
            rfl
          refine pure_ (i := 10) (N := some 40) (v := ?_) (a' := ?_) #[true, true, true, true, true, true, true, true, true, false, true, false, false, false, false, false, false, false, false, false, false, false, false, false, false, false, false, false] rfl rfl (any_of HT_.out (by kernel_rfl)) (fun _ _ _ h => h) (Or.inl ⟨by rfl, ?_⟩) ?_ ?_
          rotate_left
          · intro w'
            go_simp
            with_reducible rfl
          rotate_left
          · simp only [Act.put, List.setIfInBounds_toArray, List.set_cons_zero, List.set_cons_succ, i64_w, i32_w]
            rfl
          refine pure_ (i := 11) (N := some 41) (v := ?_) (a' := ?_) #[true, true, true, true, true, true, true, true, true, false, true, true, false, false, false, false, false, false, false, false, false, false, false, false, false, false, false, false] rfl rfl (any_of HT_.out (by kernel_rfl)) (fun _ _ _ h => h) (Or.inl ⟨by rfl, ?_⟩) ?_ ?_
          rotate_left
          · intro w'
            go_simp
            with_reducible rfl
          rotate_left
          · simp only [Act.put, List.setIfInBounds_toArray, List.set_cons_zero, List.set_cons_succ, i64_w, i32_w]
            rfl
          refine take_ (i := 9) (N := some 39) (v := ?_) (a' := ?_) #[true, true, true, true, true, true, true, true, true, true, true, true, false, false, false, false, false, false, false, false, false, false, false, false, false, false, false, false] rfl rfl (take_ofW HT_.out HW_.out (by kernel_rfl)) (fun _ _ _ h => h) (Or.inl ⟨by rfl, ?_⟩) hHeld ?_ ?_
          rotate_left
          · rintro w' ⟨s0, s1⟩
            go_simp
            with_reducible rfl
          rotate_left
          · simp only [Act.put, List.setIfInBounds_toArray, List.set_cons_zero, List.set_cons_succ, i64_w, i32_w]
            rfl
          refine one_ (i := 12) (N := some 42) #[true, true, true, true, true, true, true, true, true, true, true, true, true, false, false, false, false, false, false, false, false, false, false, false, false, false, false, false] rfl rfl (one_of HT_.out (by kernel_rfl)) (by decide) (fun K hK => ?_)
          refine goes_ Tryd.func29 (by kernel_rfl) rfl #[.slice Ao16 t390.length co16, .string t391] (by rfl) rfl rfl pA ?_
          with_reducible refine (spec_MapEntry.calls k _ _ t390 t391 t403 t404 _ ?side1 ?side2 A24.out).mono ?_
          (case side1 => exact pC (rr HO393.out).2.2)
          (case side2 => exact (rr HO393.out).2.1)
          rintro e w38 ⟨v405, rfl, ho0, hb⟩
          refine ⟨_, rfl, ?_⟩
          have n_ := t9 (Kd.R_below (pR HO383) hb) (Kd.R_below (pR HO387) hb) (rE (pR HO393) (rB ho0) hb) (rE (pR HO397) (rB ho0) hb) (rE (pR HO402) (rB ho0) hb) (rL (rW (rW (rW ho0 (Kd.R_lt (pR HO393))) (Kd.R_lt (pR HO397))) (Kd.R_lt (pR HO402))) (bs_ pB)) (blk_below (g := gb389) (o := .cells #[.int .i64 t384, .slice Ao14 t385.length co14, .string t388] 53 (0, 0)) (pK BK389) hb) (blk_below (g := gb398) (o := .cells #[.int .i64 t394, .slice Ao21 t395.length co21] 58 (0, 0)) (pK BK398) hb) (bz_ pB hb)
          clear HO383 HO387 HO393 HO397 HO402 BK389 BK398 HB; obtain ⟨HO383, HO387, HO393, HO397, HO402, HO406, BK389, BK398, HB⟩ := n_; (try clear hb); (try clear hb2); (try clear hk); (try clear hi); (try clear ho0)
          obtain ⟨Ao39, co39, eo39⟩ := rS HO406.out
          (first | subst eo39 | (injection eo39 with f1_ f2_ f3_; have f4_ := f1_.symm; have f5_ := f3_.symm; clear f1_ f2_ f3_; subst f4_; subst f5_))
          refine hK.out _ _ ⟨(blk_cell BK398.out 0).trans rfl, (blk_cell BK398.out 1).trans rfl⟩ (fun hHeld => ?_)
          clear hK K
          refine norm_ (a' := ?_) ?_ ?_
          rotate_left
          · show Act.put _ (some 42) _ = _
            simp only [Act.put, List.setIfInBounds_toArray, List.set_cons_zero, List.set_cons_succ, i64_w, i32_w]
            rfl
          refine pure_ (i := 13) (N := some 43) (v := ?_) (a' := ?_) #[true, true, true, true, true, true, true, true, true, true, true, true, true, true, false, false, false, false, false, false, false, false, false, false, false, false, false, false] rfl rfl (any_of HT_.out (by kernel_rfl)) (fun _ _ _ h => h) (Or.inl ⟨by rfl, ?_⟩) ?_ ?_
          rotate_left
          · intro w'
            go_simp
            with_reducible rfl
          rotate_left
          · simp only [Act.put, List.setIfInBounds_toArray, List.set_cons_zero, List.set_cons_succ, i64_w, i32_w]
            rfl
          refine one_ (i := 14) (N := some 44) #[true, true, true, true, true, true, true, true, true, true, true, true, true, true, true, false, false, false, false, false, false, false, false, false, false, false, false, false] rfl rfl (one_of HT_.out (by kernel_rfl)) (by decide) (fun K hK => ?_)
          refine goes_ Tryd.func30 (by kernel_rfl) rfl #[.slice Ao21 t395.length co21, .slice Ao39 t404.length co39] (by rfl) rfl rfl pA ?_
          with_reducible refine (impl_SameVals.calls k _ _ t395 _ _ t404 true _ ?side1 ?side2 ?side3 ?side4 A25.out).mono ?_
          (case side1 => exact pC (rr HO397.out).2.2)
          (case side2 => exact (rr HO397.out).2.1)
          (case side3 => exact pC (rr HO406.out).2.2)
          (case side4 => exact (rr HO406.out).2.1)
          rintro e w' ⟨rfl, ⟨nd, rfl⟩⟩
          refine ⟨_, rfl, ?_⟩
          refine hK.out _ _ ⟨(blk_cell BK398.out 0).trans rfl, (blk_cell BK398.out 1).trans rfl⟩ (fun hHeld => ?_)
          clear hK K
          refine norm_ (a' := ?_) ?_ ?_
          rotate_left
          · show Act.put _ (some 44) _ = _
            simp only [Act.put, List.setIfInBounds_toArray, List.set_cons_zero, List.set_cons_succ, i64_w, i32_w]
            rfl
          refine pure_ (i := 15) (N := some 45) (v := ?_) (a' := ?_) #[true, true, true, true, true, true, true, true, true, true, true, true, true, true, true, true, false, false, false, false, false, false, false, false, false, false, false, false] rfl rfl (any_of HT_.out (by kernel_rfl)) (fun _ _ _ h => h) (Or.inl ⟨by rfl, ?_⟩) ?_ ?_
          rotate_left
          · intro w'
            go_simp
            with_reducible rfl
          rotate_left
          · simp only [Act.put, List.setIfInBounds_toArray, List.set_cons_zero, List.set_cons_succ, i64_w, i32_w]
            rfl
          refine pure_ (i := 16) (N := some 46) (v := ?_) (a' := ?_) #[true, true, true, true, true, true, true, true, true, true, true, true, true, true, true, true, true, false, false, false, false, false, false, false, false, false, false, false] rfl rfl (any_of HT_.out (by kernel_rfl)) (fun _ _ _ h => h) (Or.inl ⟨by rfl, ?_⟩) ?_ ?_
          rotate_left
          · intro w'
            go_simp
            with_reducible rfl
          rotate_left
          · simp only [Act.put, List.setIfInBounds_toArray, List.set_cons_zero, List.set_cons_succ, i64_w, i32_w]
            rfl
          refine pure_ (i := 17) (N := some 47) (v := ?_) (a' := ?_) #[true, true, true, true, true, true, true, true, true, true, true, true, true, true, true, true, true, true, false, false, false, false, false, false, false, false, false, false] rfl rfl (any_of HT_.out (by kernel_rfl)) (fun _ _ _ h => h) (Or.inl ⟨by rfl, ?_⟩) ?_ ?_
          rotate_left
          · intro w'
            go_simp
            with_reducible rfl
          rotate_left
          · simp only [Act.put, List.setIfInBounds_toArray, List.set_cons_zero, List.set_cons_succ, i64_w, i32_w]
            rfl
          refine pure_ (i := 18) (N := some 48) (v := ?_) (a' := ?_) #[true, true, true, true, true, true, true, true, true, true, true, true, true, true, true, true, true, true, true, false, false, false, false, false, false, false, false, false] rfl rfl (any_of HT_.out (by kernel_rfl)) (fun _ _ _ h => h) (Or.inl ⟨by rfl, ?_⟩) ?_ ?_
          rotate_left
          · intro w'
            go_simp
            with_reducible rfl
          rotate_left
          · simp only [Act.put, List.setIfInBounds_toArray, List.set_cons_zero, List.set_cons_succ, i64_w, i32_w]
            rfl
          refine take_ (i := 19) (N := some 49) (v := ?_) (a' := ?_) #[true, true, true, true, true, true, true, true, true, true, true, true, true, true, true, true, true, true, true, true, false, false, false, false, false, false, false, false] rfl rfl (take_ofW HT_.out HW_.out (by kernel_rfl)) (fun _ _ _ h => h) (Or.inl ⟨by rfl, ?_⟩) hHeld ?_ ?_
          rotate_left
          · rintro w' ⟨s0, s1⟩
            go_simp
            with_reducible rfl
          rotate_left
          · simp only [Act.put, List.setIfInBounds_toArray, List.set_cons_zero, List.set_cons_succ, i64_w, i32_w]
            rfl
          refine pure_ (i := 20) (N := some 50) (v := ?_) (a' := ?_) #[true, true, true, true, true, true, true, true, true, true, true, true, true, true, true, true, true, true, true, true, true, false, false, false, false, false, false, false] rfl rfl (any_of HT_.out (by kernel_rfl)) (fun _ _ _ h => h) (Or.inl ⟨by rfl, ?_⟩) ?_ ?_
          rotate_left
          · intro w'
            go_simp
            with_reducible rfl
          rotate_left
          · simp only [Act.put, List.setIfInBounds_toArray, List.set_cons_zero, List.set_cons_succ, i64_w, i32_w]
            rfl
          refine pure_ (i := 21) (N := some 51) (v := ?_) (a' := ?_) #[true, true, true, true, true, true, true, true, true, true, true, true, true, true, true, true, true, true, true, true, true, true, false, false, false, false, false, false] rfl rfl (any_of HT_.out (by kernel_rfl)) (fun _ _ _ h => h) (Or.inl ⟨by rfl, ?_⟩) ?_ ?_
          rotate_left
          · intro w'
            go_simp
            with_reducible rfl
          rotate_left
          · simp only [Act.put, List.setIfInBounds_toArray, List.set_cons_zero, List.set_cons_succ, i64_w, i32_w]
            rfl
          refine pure_ (i := 22) (N := some 52) (v := undef) (a' := ?_) #[true, true, true, true, true, true, true, true, true, true, true, true, true, true, true, true, true, true, true, true, true, true, true, false, false, false, false, false] rfl rfl (any_of HT_.out (by kernel_rfl)) (fun _ _ _ h => h) (Or.inr ⟨by rfl, rfl⟩) ?_ ?_
          rotate_left
          · simp only [Act.put, List.setIfInBounds_toArray, List.set_cons_zero, List.set_cons_succ, i64_w, i32_w]
            rfl
          refine pure_ (i := 23) (N := some 53) (v := undef) (a' := ?_) #[true, true, true, true, true, true, true, true, true, true, true, true, true, true, true, true, true, true, true, true, true, true, true, true, false, false, false, false] rfl rfl (any_of HT_.out (by kernel_rfl)) (fun _ _ _ h => h) (Or.inr ⟨by rfl, rfl⟩) ?_ ?_
          rotate_left
          · simp only [Act.put, List.setIfInBounds_toArray, List.set_cons_zero, List.set_cons_succ, i64_w, i32_w]
            rfl
          refine pure_ (i := 24) (N := some 54) (v := undef) (a' := ?_) #[true, true, true, true, true, true, true, true, true, true, true, true, true, true, true, true, true, true, true, true, true, true, true, true, true, false, false, false] rfl rfl (any_of HT_.out (by kernel_rfl)) (fun _ _ _ h => h) (Or.inr ⟨by rfl, rfl⟩) ?_ ?_
          rotate_left
          · simp only [Act.put, List.setIfInBounds_toArray, List.set_cons_zero, List.set_cons_succ, i64_w, i32_w]
            rfl
          refine pure_ (i := 25) (N := some 55) (v := undef) (a' := ?_) #[true, true, true, true, true, true, true, true, true, true, true, true, true, true, true, true, true, true, true, true, true, true, true, true, true, true, false, false] rfl rfl (any_of HT_.out (by kernel_rfl)) (fun _ _ _ h => h) (Or.inr ⟨by rfl, rfl⟩) ?_ ?_
          rotate_left
          · simp only [Act.put, List.setIfInBounds_toArray, List.set_cons_zero, List.set_cons_succ, i64_w, i32_w]
            rfl
          refine pure_ (i := 26) (N := some 56) (v := ?_) (a' := ?_) #[true, true, true, true, true, true, true, true, true, true, true, true, true, true, true, true, true, true, true, true, true, true, true, true, true, true, true, false] rfl rfl (any_of HT_.out (by kernel_rfl)) (fun _ _ _ h => h) (Or.inl ⟨by rfl, ?_⟩) ?_ ?_
          rotate_left
          · intro w'
            go_simp
            with_reducible rfl
          rotate_left
          · simp only [Act.put, List.setIfInBounds_toArray, List.set_cons_zero, List.set_cons_succ, i64_w, i32_w]
            rfl
          refine pure_ (i := 27) (N := some 57) (v := ?_) (a' := ?_) #[true, true, true, true, true, true, true, true, true, true, true, true, true, true, true, true, true, true, true, true, true, true, true, true, true, true, true, true] rfl rfl (any_of HT_.out (by kernel_rfl)) (fun _ _ _ h => h) (Or.inl ⟨by rfl, ?_⟩) ?_ ?_
          rotate_left
          · intro w'
            go_simp
            with_reducible rfl
          rotate_left
          · simp only [Act.put, List.setIfInBounds_toArray, List.set_cons_zero, List.set_cons_succ, i64_w, i32_w]
            rfl
          refine done_ (done_of HT_.out (by kernel_rfl)) ?_
          try go_wp2
          go_meet
          case rel => exact ⟨_, (false), pF, H', ⟨by first | omega | exact Nat.le_refl _⟩, ⟨(pR HO383)⟩, ⟨(pR HO387)⟩, ⟨(pT (Kd.R_mono HO397.out (fun _ hk => trivial)))⟩, ⟨(pK BK389)⟩, ⟨(pK BK398)⟩, ⟨pB⟩⟩
      · replace c26 := Bool.eq_false_iff.mpr c26
        subst c26
        have H1 : (none) = some r := by rw [if_neg (show ¬ (false = true) by decide)] at H; exact H
        clear H; have H := H1; clear H1
        exact absurd H (by simp)
    · rw [if_neg c23] at H
      have c23b0 : (t394 == t399) = false := beq_eq_false_iff_ne.mpr c23
      have c23b1 : (t394 != t399) = true := bne_iff_ne.mpr c23
      (first | rw [c23b0] | (simp only [i64_w, i32_w]; rw [c23b0]) | skip)
      exact absurd H (by simp)
   case rest =>
    clear HC8; (try clear c2); (try clear c3)
    obtain ⟨kq, x57_7, rfl, HA, HJ7, HO_4, HO_390001, HO_399001, BK389, BK398, HB⟩ := hcut
    cases kq with
    | zero => exact absurd HA.out (by simp [laws_FnCuts.j0])
    | succ kj7 =>
     have H := HA.out
     clear HA
     simp only [laws_FnCuts.j0] at H
     by_cases c40 : x57_7 = true
     · subst c40
       have H1 : (none) = some r := by rw [if_pos rfl] at H; exact H
       clear H; have H := H1; clear H1
       exact absurd H (by simp)
     · replace c40 := Bool.eq_false_iff.mpr c40
       subst c40
       have H1 : (if t384 = 0 then ((laws_lwAt.f l0 3 (wrap64 ((t381.length : Int) + 1))).bind fun t414 => (if 0 ≤ t414 then (if t414 ≤ (t381.length : Int) then ((impl_CutLines.f kj7 t380 (t381.take (t414 : Int).toNat)).bind fun bt419 => ((impl_CutLines.f kj7 bt419.2.2 (t381.drop (t414 : Int).toNat)).bind fun bt429 => (if bt419.1 = 0 then (if bt429.1 = 0 then (if bt429.2.2.toList = t388.toList then ((some (([] : List ByteArray) : List ByteArray)).bind fun y435 => (if y435.length + bt419.2.1.length < 8796093022208 then ((some (y435 ++ bt419.2.1 : List ByteArray)).bind fun y438 => (if y438.length + bt429.2.1.length < 8796093022208 then ((laws_lwTexts.f kj7 (y438 ++ bt429.2.1) t385).bind fun t444 => (if t444 = true then ((spec_CutLines.f kj7 t380 t381).bind fun bt445 => ((laws_lwTexts.f kj7 t385 bt445.2.1).bind fun t450 => (some t450))) else (none))) else (none))) else (none))) else (none)) else (none)) else (none)))) else (none)) else (none))) else ((spec_CutLines.f kj7 t380 t381).bind fun bt409 => (some (bt409.1 == t384)))) = some r := by rw [if_neg (show ¬ (false = true) by decide)] at H; exact H
       clear H; have H := H1; clear H1
       by_cases c41 : t384 = 0
       · rw [if_pos c41] at H
         have c41b0 : (t384 == 0) = true := beq_iff_eq.mpr c41
         have c41b1 : (t384 != 0) = false := bne_eq_false_iff_eq.mpr c41
         clear c41
         obtain ⟨t414, A420, H⟩ := bO H
         replace H : (if 0 ≤ t414 then (if t414 ≤ (t381.length : Int) then ((impl_CutLines.f kj7 t380 (t381.take (t414 : Int).toNat)).bind fun bt419 => ((impl_CutLines.f kj7 bt419.2.2 (t381.drop (t414 : Int).toNat)).bind fun bt429 => (if bt419.1 = 0 then (if bt429.1 = 0 then (if bt429.2.2.toList = t388.toList then ((some (([] : List ByteArray) : List ByteArray)).bind fun y435 => (if y435.length + bt419.2.1.length < 8796093022208 then ((some (y435 ++ bt419.2.1 : List ByteArray)).bind fun y438 => (if y438.length + bt429.2.1.length < 8796093022208 then ((laws_lwTexts.f kj7 (y438 ++ bt429.2.1) t385).bind fun t444 => (if t444 = true then ((spec_CutLines.f kj7 t380 t381).bind fun bt445 => ((laws_lwTexts.f kj7 t385 bt445.2.1).bind fun t450 => (some t450))) else (none))) else (none))) else (none))) else (none)) else (none)) else (none)))) else (none)) else (none)) = some r := H
         have A42 := am A420; clear A420
         by_cases c43 : 0 ≤ t414
         · rw [if_pos c43] at H
           have c43b0 := eq_true c43
           have c43b1 : decide (0 ≤ t414) = true := dt c43
           clear c43
           by_cases c44 : t414 ≤ (t381.length : Int)
           · rw [if_pos c44] at H
             have c44b0 := eq_true c44
             have c44b1 : decide (t414 ≤ (t381.length : Int)) = true := dt c44
             clear c44
             obtain ⟨y415, hy415⟩ : ∃ y_ : List Int, y_ = (t381.take (t414 : Int).toNat) := ⟨_, rfl⟩
             replace H : ((impl_CutLines.f kj7 t380 y415).bind fun bt419 => ((impl_CutLines.f kj7 bt419.2.2 (t381.drop (t414 : Int).toNat)).bind fun bt429 => (if bt419.1 = 0 then (if bt429.1 = 0 then (if bt429.2.2.toList = t388.toList then ((some (([] : List ByteArray) : List ByteArray)).bind fun y435 => (if y435.length + bt419.2.1.length < 8796093022208 then ((some (y435 ++ bt419.2.1 : List ByteArray)).bind fun y438 => (if y438.length + bt429.2.1.length < 8796093022208 then ((laws_lwTexts.f kj7 (y438 ++ bt429.2.1) t385).bind fun t444 => (if t444 = true then ((spec_CutLines.f kj7 t380 t381).bind fun bt445 => ((laws_lwTexts.f kj7 t385 bt445.2.1).bind fun t450 => (some t450))) else (none))) else (none))) else (none))) else (none)) else (none)) else (none)))) = some r := by first | (rw [hy415]; with_reducible exact H) | (have H2_ := (Option.bind_some _ _).symm.trans H; rw [hy415]; with_reducible exact H2_) | (have H2_ := (Option.bind_some _ _).symm.trans H; with_reducible exact H2_) | with_reducible exact H | (rw [hy415]; exact H) | exact H
             have Ny415 := am hy415; clear hy415
             obtain ⟨⟨t419, t420, t423⟩, A450, H⟩ := bO H
             replace H : ((impl_CutLines.f kj7 t423 (t381.drop (t414 : Int).toNat)).bind fun bt429 => (if t419 = 0 then (if bt429.1 = 0 then (if bt429.2.2.toList = t388.toList then ((some (([] : List ByteArray) : List ByteArray)).bind fun y435 => (if y435.length + t420.length < 8796093022208 then ((some (y435 ++ t420 : List ByteArray)).bind fun y438 => (if y438.length + bt429.2.1.length < 8796093022208 then ((laws_lwTexts.f kj7 (y438 ++ bt429.2.1) t385).bind fun t444 => (if t444 = true then ((spec_CutLines.f kj7 t380 t381).bind fun bt445 => ((laws_lwTexts.f kj7 t385 bt445.2.1).bind fun t450 => (some t450))) else (none))) else (none))) else (none))) else (none)) else (none)) else (none))) = some r := H
             have A45 := am A450; clear A450
             have c46b0 := eq_true (pD : 0 ≤ t414)
             have c47b0 := eq_true (pD : t414 ≤ (t381.length : Int))
             obtain ⟨y425, hy425⟩ : ∃ y_ : List Int, y_ = (t381.drop (t414 : Int).toNat) := ⟨_, rfl⟩
             replace H : ((impl_CutLines.f kj7 t423 y425).bind fun bt429 => (if t419 = 0 then (if bt429.1 = 0 then (if bt429.2.2.toList = t388.toList then ((some (([] : List ByteArray) : List ByteArray)).bind fun y435 => (if y435.length + t420.length < 8796093022208 then ((some (y435 ++ t420 : List ByteArray)).bind fun y438 => (if y438.length + bt429.2.1.length < 8796093022208 then ((laws_lwTexts.f kj7 (y438 ++ bt429.2.1) t385).bind fun t444 => (if t444 = true then ((spec_CutLines.f kj7 t380 t381).bind fun bt445 => ((laws_lwTexts.f kj7 t385 bt445.2.1).bind fun t450 => (some t450))) else (none))) else (none))) else (none))) else (none)) else (none)) else (none))) = some r := by first | (rw [hy425]; with_reducible exact H) | (have H2_ := (Option.bind_some _ _).symm.trans H; rw [hy425]; with_reducible exact H2_) | (have H2_ := (Option.bind_some _ _).symm.trans H; with_reducible exact H2_) | with_reducible exact H | (rw [hy425]; exact H) | exact H
             have Ny425 := am hy425; clear hy425
             obtain ⟨⟨t429, t430, t433⟩, A480, H⟩ := bO H
             replace H : (if t419 = 0 then (if t429 = 0 then (if t433.toList = t388.toList then ((some (([] : List ByteArray) : List ByteArray)).bind fun y435 => (if y435.length + t420.length < 8796093022208 then ((some (y435 ++ t420 : List ByteArray)).bind fun y438 => (if y438.length + t430.length < 8796093022208 then ((laws_lwTexts.f kj7 (y438 ++ t430) t385).bind fun t444 => (if t444 = true then ((spec_CutLines.f kj7 t380 t381).bind fun bt445 => ((laws_lwTexts.f kj7 t385 bt445.2.1).bind fun t450 => (some t450))) else (none))) else (none))) else (none))) else (none)) else (none)) else (none)) = some r := H
             have A48 := am A480; clear A480
             by_cases c49 : t419 = 0
             · rw [if_pos c49] at H
               have c49b0 : (t419 == 0) = true := beq_iff_eq.mpr c49
               have c49b1 : (t419 != 0) = false := bne_eq_false_iff_eq.mpr c49
               clear c49
               by_cases c50 : t429 = 0
               · rw [if_pos c50] at H
                 have c50b0 : (t429 == 0) = true := beq_iff_eq.mpr c50
                 have c50b1 : (t429 != 0) = false := bne_eq_false_iff_eq.mpr c50
                 clear c50
                 by_cases c51 : t433.toList = t388.toList
                 · rw [if_pos c51] at H
                   have c51b0 : (t433.toList == t388.toList) = true := beq_iff_eq.mpr c51
                   have c51b1 : (t433.toList != t388.toList) = false := bne_eq_false_iff_eq.mpr c51
                   clear c51
                   obtain ⟨y435, hy435⟩ : ∃ y_ : List ByteArray, y_ = (([] : List ByteArray)) := ⟨_, rfl⟩
                   replace H : (if y435.length + t420.length < 8796093022208 then ((some (y435 ++ t420 : List ByteArray)).bind fun y438 => (if y438.length + t430.length < 8796093022208 then ((laws_lwTexts.f kj7 (y438 ++ t430) t385).bind fun t444 => (if t444 = true then ((spec_CutLines.f kj7 t380 t381).bind fun bt445 => ((laws_lwTexts.f kj7 t385 bt445.2.1).bind fun t450 => (some t450))) else (none))) else (none))) else (none)) = some r := by first | (rw [hy435]; with_reducible exact H) | (have H2_ := (Option.bind_some _ _).symm.trans H; rw [hy435]; with_reducible exact H2_) | (have H2_ := (Option.bind_some _ _).symm.trans H; with_reducible exact H2_) | with_reducible exact H | (rw [hy435]; exact H) | exact H
                   have Ny435 := am hy435; clear hy435
                   by_cases c52 : y435.length + t420.length < 8796093022208
                   · rw [if_pos c52] at H
                     have LMc52 := am c52; clear c52
                     obtain ⟨y438, hy438⟩ : ∃ y_ : List ByteArray, y_ = (y435 ++ t420) := ⟨_, rfl⟩
                     replace H : (if y438.length + t430.length < 8796093022208 then ((laws_lwTexts.f kj7 (y438 ++ t430) t385).bind fun t444 => (if t444 = true then ((spec_CutLines.f kj7 t380 t381).bind fun bt445 => ((laws_lwTexts.f kj7 t385 bt445.2.1).bind fun t450 => (some t450))) else (none))) else (none)) = some r := by first | (rw [hy438]; with_reducible exact H) | (have H2_ := (Option.bind_some _ _).symm.trans H; rw [hy438]; with_reducible exact H2_) | (have H2_ := (Option.bind_some _ _).symm.trans H; with_reducible exact H2_) | with_reducible exact H | (rw [hy438]; exact H) | exact H
                     have Ny438 := am hy438; clear hy438
                     by_cases c53 : y438.length + t430.length < 8796093022208
                     · rw [if_pos c53] at H
                       have LMc53 := am c53; clear c53
                       obtain ⟨y441, hy441⟩ : ∃ y_ : List ByteArray, y_ = (y438 ++ t430) := ⟨_, rfl⟩
                       replace H : ((laws_lwTexts.f kj7 y441 t385).bind fun t444 => (if t444 = true then ((spec_CutLines.f kj7 t380 t381).bind fun bt445 => ((laws_lwTexts.f kj7 t385 bt445.2.1).bind fun t450 => (some t450))) else (none))) = some r := by first | (rw [hy441]; with_reducible exact H) | (have H2_ := (Option.bind_some _ _).symm.trans H; rw [hy441]; with_reducible exact H2_) | (have H2_ := (Option.bind_some _ _).symm.trans H; with_reducible exact H2_) | with_reducible exact H | (rw [hy441]; exact H) | exact H
                       have Ny441 := am hy441; clear hy441
                       obtain ⟨t444, A540, H⟩ := bO H
                       replace H : (if t444 = true then ((spec_CutLines.f kj7 t380 t381).bind fun bt445 => ((laws_lwTexts.f kj7 t385 bt445.2.1).bind fun t450 => (some t450))) else (none)) = some r := H
                       have A54 := am A540; clear A540
                       by_cases c55 : t444 = true
                       · subst c55
                         have H1 : ((spec_CutLines.f kj7 t380 t381).bind fun bt445 => ((laws_lwTexts.f kj7 t385 bt445.2.1).bind fun t450 => (some t450))) = some r := by rw [if_pos rfl] at H; exact H
                         clear H; have H := H1; clear H1
                         obtain ⟨⟨t445, t446, t449⟩, A560, H⟩ := bO H
                         replace H : ((laws_lwTexts.f kj7 t385 t446).bind fun t450 => (some t450)) = some r := H
                         have A56 := am A560; clear A560
                         obtain ⟨t450, A570, H⟩ := bO H
                         replace H : (some t450) = some r := H
                         have A57 := am A570; clear A570
                         obtain rfl := sj H
                         have hnb58 := NB389_398.out
                         have hnc58 := NB398_389.out
                         obtain ⟨hcz59_0, hcz59_1, hcz59_2, hfz59_0, hfz59_1, hfz59_2⟩ := bx3 BK389
                         try go_wp2_with (first | ((with_reducible refine gC (f := 33) rfl ?_); refine goesL_ (some 72) rfl rfl Tryd.func33 (by kernel_rfl) rfl #[.slice A0 l0.length c0, .int .i64 3, .int .i64 (wrap64 ((t381.length : Int) + 1))] rfl pA ?_; (with_reducible refine (laws_lwAt.calls _ _ l0 3 (wrap64 ((t381.length : Int) + 1)) t414 _ ?side1 ?side2 A42.out).mono ?_); (case side1 => exact pC (Kd.C_below HR0.out HB.out)); (case side2 => exact HC0.out); rintro e w' ⟨rfl, ⟨nd, rfl⟩⟩; refine ⟨_, rfl, ?_⟩; (try (rw [drewN_self wc]; generalize hq_ : World.drewN wc _ = wc; have n0_ : Aside0 (Kd.R Kd.string 9 wc w.heap.size (fun _ => True) (.slice Ao14 t385.length co14) t385) := ⟨by rw [← hq_]; exact (pR HO_390001)⟩; have n1_ : Aside0 (Kd.R k81 81 wc w.heap.size (fun _ => True) (.slice Ao21 t395.length co21) t395) := ⟨by rw [← hq_]; exact (pR HO_399001)⟩; have n2_ : Aside0 (Kd.R (Kd.int .u8) 5 wc w.heap.size (fun _ => True) (.slice Ao10 t381.length co10) t381) := ⟨by rw [← hq_]; exact (pR HO_4)⟩; have n3_ : Aside0 (wc.heap[gb389]? = some (.cells #[.int .i64 t384, .slice Ao14 t385.length co14, .string t388] 53 (0, 0))) := ⟨by rw [← hq_]; exact (pK BK389)⟩; have n4_ : Aside0 (wc.heap[gb398]? = some (.cells #[.int .i64 t394, .slice Ao21 t395.length co21] 58 (0, 0))) := ⟨by rw [← hq_]; exact (pK BK398)⟩; have n5_ : Aside0 (Below w.heap.size w wc) := ⟨by rw [← hq_]; exact pB⟩; clear HO_390001 HO_399001 HO_4 BK389 BK398 HB hq_; have HO_390001 := n0_; have HO_399001 := n1_; have HO_4 := n2_; have BK389 := n3_; have BK398 := n4_; have HB := n5_; clear n0_ n1_ n2_ n3_ n4_ n5_)); have q60 : (t414 : Int) ≤ ((t381.length : Int) : Int) := pD; obtain ⟨i060, hi060, _, hsz60, _⟩ := info_parts info5; have hroom60 : t381.length ≤ co10 := (rr HO_4.out).2.1; have hC60 : Kd.C (Kd.int .u8) _ Ao10 t381.length t381 := (rr HO_4.out).2.2; have hcut60 := cut_to (P := Tryd.prog) 48 5 .i64 Tryd.underlying48 hi060 Ao10 t381.length co10 t414 (pD) q60 hroom60; have hr60 := Kd.C_take (m := (t414 : Int).toNat) hC60 (by omega); have hy60 : y415.length = (t414 : Int).toNat := (by rw [Ny415.out, List.length_take]; omega); rw [← Ny415.out] at hr60; rw [← hy60] at hcut60; have HR418 := am hr60; have HC418 := am (show y415.length ≤ co10 from by omega); clear hr60 hC60 hroom60 hi060 hsz60; have KY60 := am hy60; clear hy60; have KL60 := am (show (t414 : Int).toNat ≤ t381.length from by omega); replace q60 := eq_true q60) | ((with_reducible refine gC (f := 26) rfl ?_); refine goesL_ (some 77) rfl rfl Tryd.func26 (by kernel_rfl) rfl #[.string t380, .slice Ao10 y415.length co10] rfl pA ?_; (with_reducible refine (impl_CutLines.calls kj7 t380 _ _ y415 t419 t420 t423 _ ?side1 ?side2 A45.out (someInt_below hV pB)).mono ?_); (case side1 => repeat (first | exact (by repeat (first | (with_reducible exact HR418.out) | (with_reducible refine Kd.C_alloc ?_ _) | (with_reducible refine Kd.C_drewN ?_ _) | (with_reducible refine Kd.C_drew ?_) | exact HR418.out)) | (with_reducible refine Kd.C_alloc ?_ _) | (with_reducible refine Kd.C_drewN ?_ _) | (with_reducible refine Kd.C_drew ?_))); (case side2 => exact HC418.out); rintro e w61 ⟨v421, rfl, ho0, hb⟩; refine ⟨_, rfl, ?_⟩; have n_ := t8 (Kd.R_below (pR HO_4) hb) (rE (pR HO_390001) (rB ho0) hb) (Kd.R_below (pR HO_399001) hb) (rL (rW ho0 (Kd.R_lt (pR HO_390001))) (bs_ pB)) (blk_below (g := gb389) (o := .cells #[.int .i64 t384, .slice Ao14 t385.length co14, .string t388] 53 (0, 0)) (pK BK389) hb) (blk_below (g := gb398) (o := .cells #[.int .i64 t394, .slice Ao21 t395.length co21] 58 (0, 0)) (pK BK398) hb) (Kd.C_below (by repeat (first | (with_reducible exact HR418.out) | (with_reducible refine Kd.C_alloc ?_ _) | (with_reducible refine Kd.C_drewN ?_ _) | (with_reducible refine Kd.C_drew ?_) | exact HR418.out)) hb) (bz_ pB hb); clear HO_4 HO_390001 HO_399001 BK389 BK398 HR418 HB; obtain ⟨HO_4, HO_390001, HO_399001, HO422, BK389, BK398, HR418, HB⟩ := n_; (try clear hb); (try clear ho0)) | ((with_reducible refine gate_dst (N := 10) rfl ?_); (try (refine gate_guard (by rfl) ?_; dsimp only)); refine box_event ?hg (N := 10) ?hd (cs := #[.int .i64 0, .slice none 0 0, .string (⟨#[]⟩ : ByteArray)]) (t := 53) ?hr ?_; (case hd => rfl); (case hg => rfl); (case hr => first | (go_simp; done) | (go_simp; rfl)); intro gb424 hg w62 hbox hb; have n0_ := am (Kd.R_below (pR HO_4) hb); have n1_ := am (Kd.R_below (pR HO_390001) hb); have n2_ := am (Kd.R_below (pR HO_399001) hb); have n3_ := am (Kd.R_below (pR HO422) hb); have n4_ := am (blk_below (g := gb389) (o := .cells #[.int .i64 t384, .slice Ao14 t385.length co14, .string t388] 53 (0, 0)) (pK BK389) hb); have n5_ := am (blk_below (g := gb398) (o := .cells #[.int .i64 t394, .slice Ao21 t395.length co21] 58 (0, 0)) (pK BK398) hb); have n6_ := am (Kd.C_below (by repeat (first | (with_reducible exact HR418.out) | (with_reducible refine Kd.C_alloc ?_ _) | (with_reducible refine Kd.C_drewN ?_ _) | (with_reducible refine Kd.C_drew ?_) | exact HR418.out)) hb); have n7_ := am (bz_ pB hb); have n8_ := am (hbox); have n9_ := am ((by rw [hg]; exact (bs_ pB) : w.heap.size ≤ gb424)); have n10_ := am ((by rw [hg]; exact (bs_ pB) : w.heap.size ≤ gb424)); have n11_ := am ((by rw [hg]; exact Nat.ne_of_lt (blk_lt (g := gb389) (o := .cells #[.int .i64 t384, .slice Ao14 t385.length co14, .string t388] 53 (0, 0)) (pK BK389)) : gb389 ≠ gb424)); have n12_ := am ((by rw [hg]; exact Nat.ne_of_gt (blk_lt (g := gb389) (o := .cells #[.int .i64 t384, .slice Ao14 t385.length co14, .string t388] 53 (0, 0)) (pK BK389)) : gb424 ≠ gb389)); have n13_ := am ((by rw [hg]; exact Nat.ne_of_lt (blk_lt (g := gb398) (o := .cells #[.int .i64 t394, .slice Ao21 t395.length co21] 58 (0, 0)) (pK BK398)) : gb398 ≠ gb424)); have n14_ := am ((by rw [hg]; exact Nat.ne_of_gt (blk_lt (g := gb398) (o := .cells #[.int .i64 t394, .slice Ao21 t395.length co21] 58 (0, 0)) (pK BK398)) : gb424 ≠ gb398)); clear HO_4; clear HO_390001; clear HO_399001; clear HO422; clear BK389; clear BK398; clear HR418; clear HB; have HO_4 := n0_; have HO_390001 := n1_; have HO_399001 := n2_; have HO422 := n3_; have BK389 := n4_; have BK398 := n5_; have HR418 := n6_; have HB := n7_; have BK424 := n8_; have GW424 := n9_; have GE424 := n10_; have NB389_424 := n11_; have NB424_389 := n12_; have NB398_424 := n13_; have NB424_398 := n14_; clear n0_ n1_ n2_ n3_ n4_ n5_ n6_ n7_ n8_ n9_ n10_ n11_ n12_ n13_ n14_; clear hb hbox hg; have hnb63 := NB424_389.out; have hnc63 := NB389_424.out; have hnb64 := NB424_398.out; have hnc64 := NB398_424.out; have hcz65_0 : w62.cell? ⟨gb424, 0, none⟩ = some (.int .i64 0) := (blk_cell BK424.out 0).trans rfl; have hcz65_1 : w62.cell? ⟨gb424, 1, none⟩ = some (.slice none 0 0) := (blk_cell BK424.out 1).trans rfl; have hcz65_2 : w62.cell? ⟨gb424, 2, none⟩ = some (.string (⟨#[]⟩ : ByteArray)) := (blk_cell BK424.out 2).trans rfl; have hfz65_0 := blk_frozen BK424.out 0; have hfz65_1 := blk_frozen BK424.out 1; have hfz65_2 := blk_frozen BK424.out 2; obtain ⟨Ao66, co66, eo66⟩ := rS HO422.out; subst eo66))
                         have n0_ : Aside0 (Kd.R (Kd.int .u8) 5 (((w62.setCell ⟨gb424, 0, none⟩ (.int .i64 t419)).setCell ⟨gb424, 1, none⟩ (.slice Ao66 t420.length co66)).setCell ⟨gb424, 2, none⟩ (.string t423)) w.heap.size (fun _ => True) (.slice Ao10 t381.length co10) t381) := ⟨(pT (Kd.R_mono (Kd.R_far (p := ⟨gb424, 2, none⟩) (Kd.R_far (p := ⟨gb424, 1, none⟩) (Kd.R_far (p := ⟨gb424, 0, none⟩) (Kd.R_types HO_4.out BK424.out (by decide)) (fun _ hk => hk.2) (.int .i64 t419)) (fun _ hk => hk.2) (.slice Ao66 t420.length co66)) (fun _ hk => hk.2) (.string t423)) (fun _ hk => trivial)))⟩
                         have n1_ : Aside0 (Kd.R Kd.string 9 (((w62.setCell ⟨gb424, 0, none⟩ (.int .i64 t419)).setCell ⟨gb424, 1, none⟩ (.slice Ao66 t420.length co66)).setCell ⟨gb424, 2, none⟩ (.string t423)) w.heap.size (fun k_ => some k_ ≠ (.slice Ao66 t420.length co66 : Value).ownBlock) (.slice Ao14 t385.length co14) t385) := ⟨(pT (Kd.R_mono (Kd.R_far (p := ⟨gb424, 2, none⟩) (Kd.R_far (p := ⟨gb424, 1, none⟩) (Kd.R_far (p := ⟨gb424, 0, none⟩) (Kd.R_types HO_390001.out BK424.out (by decide)) (fun _ hk => hk.2) (.int .i64 t419)) (fun _ hk => hk.2) (.slice Ao66 t420.length co66)) (fun _ hk => hk.2) (.string t423)) (fun _ hk => hk.1.2)))⟩
                         have n2_ : Aside0 (Kd.R k81 81 (((w62.setCell ⟨gb424, 0, none⟩ (.int .i64 t419)).setCell ⟨gb424, 1, none⟩ (.slice Ao66 t420.length co66)).setCell ⟨gb424, 2, none⟩ (.string t423)) w.heap.size (fun _ => True) (.slice Ao21 t395.length co21) t395) := ⟨(pT (Kd.R_mono (Kd.R_far (p := ⟨gb424, 2, none⟩) (Kd.R_far (p := ⟨gb424, 1, none⟩) (Kd.R_far (p := ⟨gb424, 0, none⟩) (Kd.R_types HO_399001.out BK424.out (by decide)) (fun _ hk => hk.2) (.int .i64 t419)) (fun _ hk => hk.2) (.slice Ao66 t420.length co66)) (fun _ hk => hk.2) (.string t423)) (fun _ hk => trivial)))⟩
                         have n3_ : Aside0 (Kd.R Kd.string 9 (((w62.setCell ⟨gb424, 0, none⟩ (.int .i64 t419)).setCell ⟨gb424, 1, none⟩ (.slice Ao66 t420.length co66)).setCell ⟨gb424, 2, none⟩ (.string t423)) w.heap.size (fun k_ => some k_ ≠ (.slice Ao14 t385.length co14 : Value).ownBlock) (.slice Ao66 t420.length co66) t420) := ⟨(pT (Kd.R_mono (Kd.R_far (p := ⟨gb424, 2, none⟩) (Kd.R_far (p := ⟨gb424, 1, none⟩) (Kd.R_far (p := ⟨gb424, 0, none⟩) (Kd.R_types HO422.out BK424.out (by decide)) (fun _ hk => hk.2) (.int .i64 t419)) (fun _ hk => hk.2) (.slice Ao66 t420.length co66)) (fun _ hk => hk.2) (.string t423)) (fun _ hk => hk.1.2)))⟩
                         have n4_ : Aside0 ((((w62.setCell ⟨gb424, 0, none⟩ (.int .i64 t419)).setCell ⟨gb424, 1, none⟩ (.slice Ao66 t420.length co66)).setCell ⟨gb424, 2, none⟩ (.string t423)).heap[gb389]? = some (.cells #[.int .i64 t384, .slice Ao14 t385.length co14, .string t388] 53 (0, 0))) := ⟨by (with_reducible repeat (first | refine blk_drewN ?_ _ | refine blk_drew ?_ | refine blk_alloc ?_ _)); refine blk_far ?_ NB389_424.out _; (with_reducible repeat (first | refine blk_drewN ?_ _ | refine blk_drew ?_ | refine blk_alloc ?_ _)); refine blk_far ?_ NB389_424.out _; (with_reducible repeat (first | refine blk_drewN ?_ _ | refine blk_drew ?_ | refine blk_alloc ?_ _)); refine blk_far ?_ NB389_424.out _; (with_reducible repeat (first | refine blk_drewN ?_ _ | refine blk_drew ?_ | refine blk_alloc ?_ _)); exact BK389.out⟩
                         have n5_ : Aside0 ((((w62.setCell ⟨gb424, 0, none⟩ (.int .i64 t419)).setCell ⟨gb424, 1, none⟩ (.slice Ao66 t420.length co66)).setCell ⟨gb424, 2, none⟩ (.string t423)).heap[gb398]? = some (.cells #[.int .i64 t394, .slice Ao21 t395.length co21] 58 (0, 0))) := ⟨by (with_reducible repeat (first | refine blk_drewN ?_ _ | refine blk_drew ?_ | refine blk_alloc ?_ _)); refine blk_far ?_ NB398_424.out _; (with_reducible repeat (first | refine blk_drewN ?_ _ | refine blk_drew ?_ | refine blk_alloc ?_ _)); refine blk_far ?_ NB398_424.out _; (with_reducible repeat (first | refine blk_drewN ?_ _ | refine blk_drew ?_ | refine blk_alloc ?_ _)); refine blk_far ?_ NB398_424.out _; (with_reducible repeat (first | refine blk_drewN ?_ _ | refine blk_drew ?_ | refine blk_alloc ?_ _)); exact BK398.out⟩
                         have n6_ : Aside0 ((((w62.setCell ⟨gb424, 0, none⟩ (.int .i64 t419)).setCell ⟨gb424, 1, none⟩ (.slice Ao66 t420.length co66)).setCell ⟨gb424, 2, none⟩ (.string t423)).heap[gb424]? = some (.cells #[.int .i64 t419, .slice Ao66 t420.length co66, .string t423] 53 (0, 0))) := ⟨by (with_reducible repeat (first | refine blk_drewN ?_ _ | refine blk_drew ?_ | refine blk_alloc ?_ _)); refine blk_put (cs := #[.int .i64 t419, .slice Ao66 t420.length co66, .string (⟨#[]⟩ : ByteArray)]) ?_ 2 _ rfl; (with_reducible repeat (first | refine blk_drewN ?_ _ | refine blk_drew ?_ | refine blk_alloc ?_ _)); refine blk_put (cs := #[.int .i64 t419, .slice none 0 0, .string (⟨#[]⟩ : ByteArray)]) ?_ 1 _ rfl; (with_reducible repeat (first | refine blk_drewN ?_ _ | refine blk_drew ?_ | refine blk_alloc ?_ _)); refine blk_put (cs := #[.int .i64 0, .slice none 0 0, .string (⟨#[]⟩ : ByteArray)]) ?_ 0 _ rfl; (with_reducible repeat (first | refine blk_drewN ?_ _ | refine blk_drew ?_ | refine blk_alloc ?_ _)); exact BK424.out⟩
                         have n7_ : Aside0 (Below w.heap.size w (((w62.setCell ⟨gb424, 0, none⟩ (.int .i64 t419)).setCell ⟨gb424, 1, none⟩ (.slice Ao66 t420.length co66)).setCell ⟨gb424, 2, none⟩ (.string t423))) := ⟨pB⟩
                         (try clear HO_4); (try clear HO_390001); (try clear HO_399001); (try clear HO422); (try clear BK389); (try clear BK398); (try clear BK424); (try clear HB)
                         generalize (((w62.setCell ⟨gb424, 0, none⟩ (.int .i64 t419)).setCell ⟨gb424, 1, none⟩ (.slice Ao66 t420.length co66)).setCell ⟨gb424, 2, none⟩ (.string t423)) = w67 at n0_ n1_ n2_ n3_ n4_ n5_ n6_ n7_ ⊢
                         have HO_4 := n0_
                         have HO_390001 := n1_
                         have HO_399001 := n2_
                         have HO422 := n3_
                         have BK389 := n4_
                         have BK398 := n5_
                         have BK424 := n6_
                         have HB := n7_
                         clear n0_ n1_ n2_ n3_ n4_ n5_ n6_ n7_
                         have n_ := t8 (Kd.R_drew HO_4.out) (Kd.R_drew HO_390001.out) (Kd.R_drew HO_399001.out) (Kd.R_drew HO422.out) (blk_drew BK389.out) (blk_drew BK398.out) (blk_drew BK424.out) (below_drew1 HB.out)
                         clear HO_4 HO_390001 HO_399001 HO422 BK389 BK398 BK424 HB; obtain ⟨HO_4, HO_390001, HO_399001, HO422, BK389, BK398, BK424, HB⟩ := n_
                         have q69 : (t414 : Int) ≤ ((t381.length : Int) : Int) := pD
                         obtain ⟨i069, hi069, _, hsz69, _⟩ := info_parts info5
                         have hroom69 : t381.length ≤ co10 := (rr HO_4.out).2.1
                         have hC69 : Kd.C (Kd.int .u8) _ Ao10 t381.length t381 := (rr HO_4.out).2.2
                         have q069 : (0 : Int) ≤ (t414 : Int) := pD
                         have hcut69 := cut_from (P := Tryd.prog) 48 5 .i64 Tryd.underlying48 hi069 1 hsz69 Ao10 t381.length co10 t414 q069 q69
                         have hr69 := Kd.C_drop (m := (t414 : Int).toNat) (c := co10) hC69 (by omega) hroom69
                         obtain ⟨A69, hA69⟩ : ∃ A1, A1 = (if co10 = (t414 : Int).toNat then Ao10 else (Ao10 : Option Addr).map (·.add ((t414 : Int).toNat * 1))) := ⟨_, rfl⟩
                         obtain ⟨c69, hc69⟩ : ∃ c1, c1 = co10 - (t414 : Int).toNat := ⟨_, rfl⟩
                         have hy69 : y425.length = t381.length - (t414 : Int).toNat := (by rw [Ny425.out, List.length_drop] <;> omega)
                         rw [show (t381).drop (t414 : Int).toNat = y425 from Ny425.out.symm] at hr69
                         replace hr69 : Kd.C (Kd.int .u8) _ A69 y425.length y425 := (by rw [hA69]; exact hr69)
                         rw [← hy69, ← hA69, ← hc69] at hcut69
                         have HR428 := am hr69
                         have HC428 := am (show y425.length ≤ c69 from by rw [hy69, hc69]; exact Nat.sub_le_sub_right hroom69 _)
                         clear hr69 hC69 hroom69 hi069 hsz69 hc69; have KY69 := am hy69; have KA69 := am hA69; clear hy69 hA69
                         have KL69 := am (show (t414 : Int).toNat ≤ t381.length from by omega)
                         replace q69 := eq_true q69
                         refine start_ (n := 8) (S := fun w' => w'.cell? ⟨gb424, 0, none⟩ = some (.int .i64 t419) ∧ w'.cell? ⟨gb424, 1, none⟩ = some (.slice Ao66 t420.length co66) ∧ w'.cell? ⟨gb424, 2, none⟩ = some (.string t423)) (ds := []) #[false, false, false, false, false, false, false, false] (by kernel_rfl) rfl rfl ⟨(blk_cell BK424.out 0).trans rfl, (blk_cell BK424.out 1).trans rfl, (blk_cell BK424.out 2).trans rfl⟩ (fun hHeld => ?_); refine with_tabW laws_FnCuts.tab13 laws_FnCuts.bits13 (fun HT_ HW_ => ?_)
                         generalize w67.drew = w68 at HO_4 HO_390001 HO_399001 HO422 BK389 BK398 BK424 HB HR428 hHeld ⊢
                         refine pure_ (i := 0) (N := some 78) (v := ?_) (a' := ?_) #[true, false, false, false, false, false, false, false] rfl rfl (any_of HT_.out (by kernel_rfl)) (fun _ _ _ h => h) (Or.inl ⟨by rfl, ?_⟩) ?_ ?_
                         rotate_left
                         · intro w'
                           go_simp
                           with_reducible rfl
                         rotate_left
                         · simp only [Act.put, List.setIfInBounds_toArray, List.set_cons_zero, List.set_cons_succ, i64_w, i32_w]
                           rfl
                         refine pure_ (i := 2) (N := some 80) (v := ?_) (a' := ?_) #[true, false, true, false, false, false, false, false] rfl rfl (any_of HT_.out (by kernel_rfl)) (fun _ _ _ h => h) (Or.inl ⟨by rfl, ?_⟩) ?_ ?_
                         rotate_left
                         · intro w'
                           go_simp
                           with_reducible rfl
                         rotate_left
                         · simp only [Act.put, List.setIfInBounds_toArray, List.set_cons_zero, List.set_cons_succ, i64_w, i32_w]
                           rfl
                         refine pure_ (i := 3) (N := some 81) (v := ?_) (a' := ?_) #[true, false, true, true, false, false, false, false] rfl rfl (any_of HT_.out (by kernel_rfl)) (fun _ _ _ h => h) (Or.inl ⟨by rfl, ?_⟩) ?_ ?_
                         rotate_left
                         · intro w'
                           go_simp
                           with_reducible rfl
                         rotate_left
                         · simp only [Act.put, List.setIfInBounds_toArray, List.set_cons_zero, List.set_cons_succ, i64_w, i32_w]
                           rfl
                         refine pure_ (i := 4) (N := some 82) (v := ?_) (a' := ?_) #[true, false, true, true, true, false, false, false] rfl rfl (any_of HT_.out (by kernel_rfl)) (fun _ _ _ h => h) (Or.inl ⟨by rfl, ?_⟩) ?_ ?_
                         rotate_left
                         · intro w'
                           go_simp
                           with_reducible rfl
                         rotate_left
                         · simp only [Act.put, List.setIfInBounds_toArray, List.set_cons_zero, List.set_cons_succ, i64_w, i32_w]
                           rfl
                         refine take_ (i := 1) (N := some 79) (v := ?_) (a' := ?_) #[true, true, true, true, true, false, false, false] rfl rfl (take_ofW HT_.out HW_.out (by kernel_rfl)) (fun _ _ _ h => h) (Or.inl ⟨by rfl, ?_⟩) hHeld ?_ ?_
                         rotate_left
                         · rintro w' ⟨s0, s1, s2⟩
                           go_simp
                           with_reducible rfl
                         rotate_left
                         · simp only [Act.put, List.setIfInBounds_toArray, List.set_cons_zero, List.set_cons_succ, i64_w, i32_w]
                           rfl
                         refine join_ (σ := Value × Nat) 1 #[true, true, true, true, true, true, true, false] (fun s_ => [(83, .agg #[.int .i64 t429, s_.1, .string t433]), (11, .pointer (some ⟨s_.2, 0, none⟩))]) (fun s_ w' => (w'.cell? ⟨gb424, 0, none⟩ = some (.int .i64 t419) ∧ w'.cell? ⟨gb424, 1, none⟩ = some (.slice Ao66 t420.length co66) ∧ w'.cell? ⟨gb424, 2, none⟩ = some (.string t423)) ∧ (Kd.R Kd.string 9 w' w.heap.size (fun k_ => some k_ ≠ (s_.1 : Value).ownBlock ∧ some k_ ≠ (.slice Ao14 t385.length co14 : Value).ownBlock) (.slice Ao66 t420.length co66) t420) ∧ (Kd.R Kd.string 9 w' w.heap.size (fun k_ => some k_ ≠ (.slice Ao66 t420.length co66 : Value).ownBlock ∧ some k_ ≠ (.slice Ao14 t385.length co14 : Value).ownBlock) s_.1 t430) ∧ (Kd.R Kd.string 9 w' w.heap.size (fun k_ => some k_ ≠ (.slice Ao66 t420.length co66 : Value).ownBlock ∧ some k_ ≠ (s_.1 : Value).ownBlock) (.slice Ao14 t385.length co14) t385) ∧ (Kd.R k81 81 w' w.heap.size (fun _ => True) (.slice Ao21 t395.length co21) t395) ∧ (Kd.R (Kd.int .u8) 5 w' w.heap.size (fun _ => True) (.slice Ao10 t381.length co10) t381) ∧ (w'.heap[gb389]? = some (.cells #[.int .i64 t384, .slice Ao14 t385.length co14, .string t388] 53 (0, 0))) ∧ (w'.heap[gb398]? = some (.cells #[.int .i64 t394, .slice Ao21 t395.length co21] 58 (0, 0))) ∧ (w'.heap[gb424]? = some (.cells #[.int .i64 t419, .slice Ao66 t420.length co66, .string t423] 53 (0, 0))) ∧ (w'.heap[s_.2]? = some (.cells #[.int .i64 0, .slice none 0 0, .string (⟨#[]⟩ : ByteArray)] 53 (0, 0))) ∧ (w.heap.size ≤ s_.2) ∧ (w.heap.size ≤ s_.2) ∧ (gb389 ≠ s_.2) ∧ (s_.2 ≠ gb389) ∧ (gb398 ≠ s_.2) ∧ (s_.2 ≠ gb398) ∧ (gb424 ≠ s_.2) ∧ (s_.2 ≠ gb424) ∧ (Below w.heap.size w w')) ?_ ?_
                         rotate_left
                         · intro hCont
                           refine two_ (i := 5) (j := 6) (Ni := some 83) (Nj := some 11) #[true, true, true, true, true, true, false, false] #[true, true, true, true, true, false, true, false] rfl rfl rfl rfl (two_of HT_.out (by kernel_rfl)) (by decide) (by decide) (fun K hK => ?_) (fun K hK => ?_)
                           · skip
                             refine goes_ Tryd.func26 (by kernel_rfl) rfl #[.string t423, .slice A69 y425.length c69] (by rfl) rfl rfl pA ?_
                             with_reducible refine (impl_CutLines.calls kj7 t423 _ _ y425 t429 t430 t433 _ ?side1 ?side2 A48.out (someInt_below hV pB)).mono ?_
                             (case side1 => repeat (first | exact (by repeat (first | (with_reducible exact HR428.out) | (with_reducible refine Kd.C_alloc ?_ _) | (with_reducible refine Kd.C_drewN ?_ _) | (with_reducible refine Kd.C_drew ?_) | exact HR428.out)) | (with_reducible refine Kd.C_alloc ?_ _) | (with_reducible refine Kd.C_drewN ?_ _) | (with_reducible refine Kd.C_drew ?_)))
                             (case side2 => exact HC428.out)
                             rintro e w70 ⟨v431, rfl, ho0, hb⟩
                             refine ⟨_, rfl, ?_⟩
                             have n_ := t10 (Kd.R_below (pR HO_4) hb) (rE (pR HO_390001) (rB ho0) hb) (Kd.R_below (pR HO_399001) hb) (rE (pR HO422) (rB ho0) hb) (rL (rW (rW ho0 (Kd.R_lt (pR HO_390001))) (Kd.R_lt (pR HO422))) (bs_ pB)) (blk_below (g := gb389) (o := .cells #[.int .i64 t384, .slice Ao14 t385.length co14, .string t388] 53 (0, 0)) (pK BK389) hb) (blk_below (g := gb398) (o := .cells #[.int .i64 t394, .slice Ao21 t395.length co21] 58 (0, 0)) (pK BK398) hb) (blk_below (g := gb424) (o := .cells #[.int .i64 t419, .slice Ao66 t420.length co66, .string t423] 53 (0, 0)) (pK BK424) hb) (Kd.C_below (by repeat (first | (with_reducible exact HR428.out) | (with_reducible refine Kd.C_alloc ?_ _) | (with_reducible refine Kd.C_drewN ?_ _) | (with_reducible refine Kd.C_drew ?_) | exact HR428.out)) hb) (bz_ pB hb)
                             clear HO_4 HO_390001 HO_399001 HO422 BK389 BK398 BK424 HR428 HB; obtain ⟨HO_4, HO_390001, HO_399001, HO422, HO432, BK389, BK398, BK424, HR428, HB⟩ := n_; (try clear hb); (try clear hb2); (try clear hk); (try clear hi); (try clear ho0)
                             refine hK.out _ _ ⟨(blk_cell BK424.out 0).trans rfl, (blk_cell BK424.out 1).trans rfl, (blk_cell BK424.out 2).trans rfl⟩ (fun hHeld => ?_)
                             clear hK K
                             refine norm_ (a' := ?_) ?_ ?_
                             rotate_left
                             · show Act.put _ (some 83) _ = _
                               simp only [Act.put, List.setIfInBounds_toArray, List.set_cons_zero, List.set_cons_succ, i64_w, i32_w]
                               rfl
                             refine one_ (i := 6) (N := some 11) #[true, true, true, true, true, true, true, false] rfl rfl (one_of HT_.out (by kernel_rfl)) (by decide) (fun K hK => ?_)
                             refine box_step ?hg (N := 11) ?hd (cs := #[.int .i64 0, .slice none 0 0, .string (⟨#[]⟩ : ByteArray)]) (t := 53) ?hr ?_; (case hd => rfl); (case hg => rfl); (case hr => first | (go_simp; done) | (go_simp; rfl))
                             intro gb434 hg w71 hbox hb
                             have n0_ := am (Kd.R_below (pR HO_4) hb)
                             have n1_ := am (Kd.R_below (pR HO_390001) hb)
                             have n2_ := am (Kd.R_below (pR HO_399001) hb)
                             have n3_ := am (Kd.R_below (pR HO422) hb)
                             have n4_ := am (Kd.R_below (pR HO432) hb)
                             have n5_ := am (blk_below (g := gb389) (o := .cells #[.int .i64 t384, .slice Ao14 t385.length co14, .string t388] 53 (0, 0)) (pK BK389) hb)
                             have n6_ := am (blk_below (g := gb398) (o := .cells #[.int .i64 t394, .slice Ao21 t395.length co21] 58 (0, 0)) (pK BK398) hb)
                             have n7_ := am (blk_below (g := gb424) (o := .cells #[.int .i64 t419, .slice Ao66 t420.length co66, .string t423] 53 (0, 0)) (pK BK424) hb)
                             have n8_ := am (Kd.C_below (by repeat (first | (with_reducible exact HR428.out) | (with_reducible refine Kd.C_alloc ?_ _) | (with_reducible refine Kd.C_drewN ?_ _) | (with_reducible refine Kd.C_drew ?_) | exact HR428.out)) hb)
                             have n9_ := am (bz_ pB hb)
                             have n10_ := am (hbox)
                             have n11_ := am ((by rw [hg]; exact (bs_ pB) : w.heap.size ≤ gb434))
                             have n12_ := am ((by rw [hg]; exact (bs_ pB) : w.heap.size ≤ gb434))
                             have n13_ := am ((by rw [hg]; exact Nat.ne_of_lt (blk_lt (g := gb389) (o := .cells #[.int .i64 t384, .slice Ao14 t385.length co14, .string t388] 53 (0, 0)) (pK BK389)) : gb389 ≠ gb434))
                             have n14_ := am ((by rw [hg]; exact Nat.ne_of_gt (blk_lt (g := gb389) (o := .cells #[.int .i64 t384, .slice Ao14 t385.length co14, .string t388] 53 (0, 0)) (pK BK389)) : gb434 ≠ gb389))
                             have n15_ := am ((by rw [hg]; exact Nat.ne_of_lt (blk_lt (g := gb398) (o := .cells #[.int .i64 t394, .slice Ao21 t395.length co21] 58 (0, 0)) (pK BK398)) : gb398 ≠ gb434))
                             have n16_ := am ((by rw [hg]; exact Nat.ne_of_gt (blk_lt (g := gb398) (o := .cells #[.int .i64 t394, .slice Ao21 t395.length co21] 58 (0, 0)) (pK BK398)) : gb434 ≠ gb398))
                             have n17_ := am ((by rw [hg]; exact Nat.ne_of_lt (blk_lt (g := gb424) (o := .cells #[.int .i64 t419, .slice Ao66 t420.length co66, .string t423] 53 (0, 0)) (pK BK424)) : gb424 ≠ gb434))
                             have n18_ := am ((by rw [hg]; exact Nat.ne_of_gt (blk_lt (g := gb424) (o := .cells #[.int .i64 t419, .slice Ao66 t420.length co66, .string t423] 53 (0, 0)) (pK BK424)) : gb434 ≠ gb424))
                             clear HO_4; clear HO_390001; clear HO_399001; clear HO422; clear HO432; clear BK389; clear BK398; clear BK424; clear HR428; clear HB
                             have HO_4 := n0_
                             have HO_390001 := n1_
                             have HO_399001 := n2_
                             have HO422 := n3_
                             have HO432 := n4_
                             have BK389 := n5_
                             have BK398 := n6_
                             have BK424 := n7_
                             have HR428 := n8_
                             have HB := n9_
                             have BK434 := n10_
                             have GW434 := n11_
                             have GE434 := n12_
                             have NB389_434 := n13_
                             have NB434_389 := n14_
                             have NB398_434 := n15_
                             have NB434_398 := n16_
                             have NB424_434 := n17_
                             have NB434_424 := n18_
                             clear n0_ n1_ n2_ n3_ n4_ n5_ n6_ n7_ n8_ n9_ n10_ n11_ n12_ n13_ n14_ n15_ n16_ n17_ n18_; clear hb hbox hg
                             refine hK.out _ _ ⟨(blk_cell BK424.out 0).trans rfl, (blk_cell BK424.out 1).trans rfl, (blk_cell BK424.out 2).trans rfl⟩ (fun hHeld => ?_)
                             clear hK K
                             refine norm_ (a' := ?_) ?_ ?_
                             rotate_left
                             · show Act.put _ (some 11) _ = _
                               simp only [Act.put, List.setIfInBounds_toArray, List.set_cons_zero, List.set_cons_succ, i64_w, i32_w]
                               rfl
                             exact norm_ (by simp only [putAll, Act.put, List.setIfInBounds_toArray, List.set_cons_zero, List.set_cons_succ]) (hCont (v431, gb434) _ ⟨hHeld, (pT (Kd.R_mono HO422.out (fun _ hk => ⟨hk.2, hk.1⟩))), (pT (Kd.R_mono HO432.out (fun _ hk => ⟨hk.2, hk.1.2⟩))), (pR HO_390001), (pR HO_399001), (pR HO_4), (pK BK389), (pK BK398), (pK BK424), (pK BK434), GW434.out, GE434.out, NB389_434.out, NB434_389.out, NB398_434.out, NB434_398.out, NB424_434.out, NB434_424.out, pB⟩)
                           · skip
                             refine box_step ?hg (N := 11) ?hd (cs := #[.int .i64 0, .slice none 0 0, .string (⟨#[]⟩ : ByteArray)]) (t := 53) ?hr ?_; (case hd => rfl); (case hg => rfl); (case hr => first | (go_simp; done) | (go_simp; rfl))
                             intro gb434 hg w70 hbox hb
                             have n0_ := am (Kd.R_below (pR HO_4) hb)
                             have n1_ := am (Kd.R_below (pR HO_390001) hb)
                             have n2_ := am (Kd.R_below (pR HO_399001) hb)
                             have n3_ := am (Kd.R_below (pR HO422) hb)
                             have n4_ := am (blk_below (g := gb389) (o := .cells #[.int .i64 t384, .slice Ao14 t385.length co14, .string t388] 53 (0, 0)) (pK BK389) hb)
                             have n5_ := am (blk_below (g := gb398) (o := .cells #[.int .i64 t394, .slice Ao21 t395.length co21] 58 (0, 0)) (pK BK398) hb)
                             have n6_ := am (blk_below (g := gb424) (o := .cells #[.int .i64 t419, .slice Ao66 t420.length co66, .string t423] 53 (0, 0)) (pK BK424) hb)
                             have n7_ := am (Kd.C_below (by repeat (first | (with_reducible exact HR428.out) | (with_reducible refine Kd.C_alloc ?_ _) | (with_reducible refine Kd.C_drewN ?_ _) | (with_reducible refine Kd.C_drew ?_) | exact HR428.out)) hb)
                             have n8_ := am (bz_ pB hb)
                             have n9_ := am (hbox)
                             have n10_ := am ((by rw [hg]; exact (bs_ pB) : w.heap.size ≤ gb434))
                             have n11_ := am ((by rw [hg]; exact (bs_ pB) : w.heap.size ≤ gb434))
                             have n12_ := am ((by rw [hg]; exact Nat.ne_of_lt (blk_lt (g := gb389) (o := .cells #[.int .i64 t384, .slice Ao14 t385.length co14, .string t388] 53 (0, 0)) (pK BK389)) : gb389 ≠ gb434))
                             have n13_ := am ((by rw [hg]; exact Nat.ne_of_gt (blk_lt (g := gb389) (o := .cells #[.int .i64 t384, .slice Ao14 t385.length co14, .string t388] 53 (0, 0)) (pK BK389)) : gb434 ≠ gb389))
                             have n14_ := am ((by rw [hg]; exact Nat.ne_of_lt (blk_lt (g := gb398) (o := .cells #[.int .i64 t394, .slice Ao21 t395.length co21] 58 (0, 0)) (pK BK398)) : gb398 ≠ gb434))
                             have n15_ := am ((by rw [hg]; exact Nat.ne_of_gt (blk_lt (g := gb398) (o := .cells #[.int .i64 t394, .slice Ao21 t395.length co21] 58 (0, 0)) (pK BK398)) : gb434 ≠ gb398))
                             have n16_ := am ((by rw [hg]; exact Nat.ne_of_lt (blk_lt (g := gb424) (o := .cells #[.int .i64 t419, .slice Ao66 t420.length co66, .string t423] 53 (0, 0)) (pK BK424)) : gb424 ≠ gb434))
                             have n17_ := am ((by rw [hg]; exact Nat.ne_of_gt (blk_lt (g := gb424) (o := .cells #[.int .i64 t419, .slice Ao66 t420.length co66, .string t423] 53 (0, 0)) (pK BK424)) : gb434 ≠ gb424))
                             clear HO_4; clear HO_390001; clear HO_399001; clear HO422; clear BK389; clear BK398; clear BK424; clear HR428; clear HB
                             have HO_4 := n0_
                             have HO_390001 := n1_
                             have HO_399001 := n2_
                             have HO422 := n3_
                             have BK389 := n4_
                             have BK398 := n5_
                             have BK424 := n6_
                             have HR428 := n7_
                             have HB := n8_
                             have BK434 := n9_
                             have GW434 := n10_
                             have GE434 := n11_
                             have NB389_434 := n12_
                             have NB434_389 := n13_
                             have NB398_434 := n14_
                             have NB434_398 := n15_
                             have NB424_434 := n16_
                             have NB434_424 := n17_
                             clear n0_ n1_ n2_ n3_ n4_ n5_ n6_ n7_ n8_ n9_ n10_ n11_ n12_ n13_ n14_ n15_ n16_ n17_; clear hb hbox hg
                             refine hK.out _ _ ⟨(blk_cell BK424.out 0).trans rfl, (blk_cell BK424.out 1).trans rfl, (blk_cell BK424.out 2).trans rfl⟩ (fun hHeld => ?_)
                             clear hK K
                             refine norm_ (a' := ?_) ?_ ?_
                             rotate_left
                             · show Act.put _ (some 11) _ = _
                               simp only [Act.put, List.setIfInBounds_toArray, List.set_cons_zero, List.set_cons_succ, i64_w, i32_w]
                               rfl
                             refine one_ (i := 5) (N := some 83) #[true, true, true, true, true, true, true, false] rfl rfl (one_of HT_.out (by kernel_rfl)) (by decide) (fun K hK => ?_)
                             refine goes_ Tryd.func26 (by kernel_rfl) rfl #[.string t423, .slice A69 y425.length c69] (by rfl) rfl rfl pA ?_
                             with_reducible refine (impl_CutLines.calls kj7 t423 _ _ y425 t429 t430 t433 _ ?side1 ?side2 A48.out (someInt_below hV pB)).mono ?_
                             (case side1 => repeat (first | exact (by repeat (first | (with_reducible exact HR428.out) | (with_reducible refine Kd.C_alloc ?_ _) | (with_reducible refine Kd.C_drewN ?_ _) | (with_reducible refine Kd.C_drew ?_) | exact HR428.out)) | (with_reducible refine Kd.C_alloc ?_ _) | (with_reducible refine Kd.C_drewN ?_ _) | (with_reducible refine Kd.C_drew ?_)))
                             (case side2 => exact HC428.out)
                             rintro e w71 ⟨v431, rfl, ho0, hb⟩
                             refine ⟨_, rfl, ?_⟩
                             have n_ := t11 (Kd.R_below (pR HO_4) hb) (rE (pR HO_390001) (rB ho0) hb) (Kd.R_below (pR HO_399001) hb) (rE (pR HO422) (rB ho0) hb) (rL (rW (rW ho0 (Kd.R_lt (pR HO_390001))) (Kd.R_lt (pR HO422))) (bs_ pB)) (blk_below (g := gb389) (o := .cells #[.int .i64 t384, .slice Ao14 t385.length co14, .string t388] 53 (0, 0)) (pK BK389) hb) (blk_below (g := gb398) (o := .cells #[.int .i64 t394, .slice Ao21 t395.length co21] 58 (0, 0)) (pK BK398) hb) (blk_below (g := gb424) (o := .cells #[.int .i64 t419, .slice Ao66 t420.length co66, .string t423] 53 (0, 0)) (pK BK424) hb) (Kd.C_below (by repeat (first | (with_reducible exact HR428.out) | (with_reducible refine Kd.C_alloc ?_ _) | (with_reducible refine Kd.C_drewN ?_ _) | (with_reducible refine Kd.C_drew ?_) | exact HR428.out)) hb) (blk_below (g := gb434) (o := .cells #[.int .i64 0, .slice none 0 0, .string (⟨#[]⟩ : ByteArray)] 53 (0, 0)) (pK BK434) hb) (bz_ pB hb)
                             clear HO_4 HO_390001 HO_399001 HO422 BK389 BK398 BK424 HR428 BK434 HB; obtain ⟨HO_4, HO_390001, HO_399001, HO422, HO432, BK389, BK398, BK424, HR428, BK434, HB⟩ := n_; (try clear hb); (try clear hb2); (try clear hk); (try clear hi); (try clear ho0)
                             refine hK.out _ _ ⟨(blk_cell BK424.out 0).trans rfl, (blk_cell BK424.out 1).trans rfl, (blk_cell BK424.out 2).trans rfl⟩ (fun hHeld => ?_)
                             clear hK K
                             refine norm_ (a' := ?_) ?_ ?_
                             rotate_left
                             · show Act.put _ (some 83) _ = _
                               simp only [Act.put, List.setIfInBounds_toArray, List.set_cons_zero, List.set_cons_succ, i64_w, i32_w]
                               rfl
                             exact norm_ (by simp only [putAll, Act.put, List.setIfInBounds_toArray, List.set_cons_zero, List.set_cons_succ]) (hCont (v431, gb434) _ ⟨hHeld, (pT (Kd.R_mono HO422.out (fun _ hk => ⟨hk.2, hk.1⟩))), (pT (Kd.R_mono HO432.out (fun _ hk => ⟨hk.2, hk.1.2⟩))), (pR HO_390001), (pR HO_399001), (pR HO_4), (pK BK389), (pK BK398), (pK BK424), (pK BK434), GW434.out, GE434.out, NB389_434.out, NB434_389.out, NB398_434.out, NB434_398.out, NB424_434.out, NB434_424.out, pB⟩)
                         rintro ⟨v431, gb434⟩ w72 ⟨hS_, h0_, h1_, h2_, h3_, h4_, h5_, h6_, h7_, h8_, h9_, h10_, h11_, h12_, h13_, h14_, h15_, h16_, h17_⟩
                         have n0_ : Aside0 (Kd.R Kd.string 9 w72 w.heap.size (fun k_ => some k_ ≠ (v431 : Value).ownBlock ∧ some k_ ≠ (.slice Ao14 t385.length co14 : Value).ownBlock) (.slice Ao66 t420.length co66) t420) := ⟨h0_⟩
                         have n1_ : Aside0 (Kd.R Kd.string 9 w72 w.heap.size (fun k_ => some k_ ≠ (.slice Ao66 t420.length co66 : Value).ownBlock ∧ some k_ ≠ (.slice Ao14 t385.length co14 : Value).ownBlock) v431 t430) := ⟨h1_⟩
                         have n2_ : Aside0 (Kd.R Kd.string 9 w72 w.heap.size (fun k_ => some k_ ≠ (.slice Ao66 t420.length co66 : Value).ownBlock ∧ some k_ ≠ (v431 : Value).ownBlock) (.slice Ao14 t385.length co14) t385) := ⟨h2_⟩
                         have n3_ : Aside0 (Kd.R k81 81 w72 w.heap.size (fun _ => True) (.slice Ao21 t395.length co21) t395) := ⟨h3_⟩
                         have n4_ : Aside0 (Kd.R (Kd.int .u8) 5 w72 w.heap.size (fun _ => True) (.slice Ao10 t381.length co10) t381) := ⟨h4_⟩
                         have n5_ : Aside0 (w72.heap[gb389]? = some (.cells #[.int .i64 t384, .slice Ao14 t385.length co14, .string t388] 53 (0, 0))) := ⟨h5_⟩
                         have n6_ : Aside0 (w72.heap[gb398]? = some (.cells #[.int .i64 t394, .slice Ao21 t395.length co21] 58 (0, 0))) := ⟨h6_⟩
                         have n7_ : Aside0 (w72.heap[gb424]? = some (.cells #[.int .i64 t419, .slice Ao66 t420.length co66, .string t423] 53 (0, 0))) := ⟨h7_⟩
                         have n8_ : Aside0 (w72.heap[gb434]? = some (.cells #[.int .i64 0, .slice none 0 0, .string (⟨#[]⟩ : ByteArray)] 53 (0, 0))) := ⟨h8_⟩
                         have n9_ : Aside0 (w.heap.size ≤ gb434) := ⟨h9_⟩
                         have n10_ : Aside0 (w.heap.size ≤ gb434) := ⟨h10_⟩
                         have n11_ : Aside0 (gb389 ≠ gb434) := ⟨h11_⟩
                         have n12_ : Aside0 (gb434 ≠ gb389) := ⟨h12_⟩
                         have n13_ : Aside0 (gb398 ≠ gb434) := ⟨h13_⟩
                         have n14_ : Aside0 (gb434 ≠ gb398) := ⟨h14_⟩
                         have n15_ : Aside0 (gb424 ≠ gb434) := ⟨h15_⟩
                         have n16_ : Aside0 (gb434 ≠ gb424) := ⟨h16_⟩
                         have n17_ : Aside0 (Below w.heap.size w w72) := ⟨h17_⟩
                         clear HO_4; clear HO_390001; clear HO_399001; clear HO422; clear BK389; clear BK398; clear BK424; clear HB; clear h0_ h1_ h2_ h3_ h4_ h5_ h6_ h7_ h8_ h9_ h10_ h11_ h12_ h13_ h14_ h15_ h16_ h17_
                         have HO422 := n0_
                         have HO432 := n1_
                         have HO_390001 := n2_
                         have HO_399001 := n3_
                         have HO_4 := n4_
                         have BK389 := n5_
                         have BK398 := n6_
                         have BK424 := n7_
                         have BK434 := n8_
                         have GW434 := n9_
                         have GE434 := n10_
                         have NB389_434 := n11_
                         have NB434_389 := n12_
                         have NB398_434 := n13_
                         have NB434_398 := n14_
                         have NB424_434 := n15_
                         have NB434_424 := n16_
                         have HB := n17_
                         clear n0_ n1_ n2_ n3_ n4_ n5_ n6_ n7_ n8_ n9_ n10_ n11_ n12_ n13_ n14_ n15_ n16_ n17_
                         have hHeld : w72.cell? ⟨gb424, 0, none⟩ = some (.int .i64 t419) ∧ w72.cell? ⟨gb424, 1, none⟩ = some (.slice Ao66 t420.length co66) ∧ w72.cell? ⟨gb424, 2, none⟩ = some (.string t423) := hS_
                         obtain ⟨Ao74, co74, eo74⟩ := rS HO432.out
                         (first | subst eo74 | (injection eo74 with f1_ f2_ f3_; have f4_ := f1_.symm; have f5_ := f3_.symm; clear f1_ f2_ f3_; subst f4_; subst f5_))
                         refine norm_ (a' := ?_) ?_ ?_
                         rotate_left
                         · simp only [putAll, Act.put, List.setIfInBounds_toArray, List.set_cons_zero, List.set_cons_succ]
                           rfl
                         refine one_ (i := 7) (N := none) #[true, true, true, true, true, true, true, true] rfl rfl (one_of HT_.out (by kernel_rfl)) (by decide) (fun K hK => ?_)
                         have hs73 : w72.cell? ⟨gb434, 0, none⟩ = some (.int .i64 0) := (blk_cell BK434.out 0).trans rfl
                         have hfs73 := blk_frozen BK434.out 0
                         have hns73_0 := NB389_434.out
                         have hns73_1 := NB398_434.out
                         have hns73_2 := NB424_434.out
                         have hms73_0 := NB434_389.out
                         have hms73_1 := NB434_398.out
                         have hms73_2 := NB434_424.out
                         have hs75 : w72.cell? ⟨gb434, 1, none⟩ = some (.slice none 0 0) := (blk_cell BK434.out 1).trans rfl
                         have hfs75 := blk_frozen BK434.out 1
                         have hns75_0 := NB389_434.out
                         have hns75_1 := NB398_434.out
                         have hns75_2 := NB424_434.out
                         have hms75_0 := NB434_389.out
                         have hms75_1 := NB434_398.out
                         have hms75_2 := NB434_424.out
                         have hs76 : w72.cell? ⟨gb434, 2, none⟩ = some (.string (⟨#[]⟩ : ByteArray)) := (blk_cell BK434.out 2).trans rfl
                         have hfs76 := blk_frozen BK434.out 2
                         have hns76_0 := NB389_434.out
                         have hns76_1 := NB398_434.out
                         have hns76_2 := NB424_434.out
                         have hms76_0 := NB434_389.out
                         have hms76_1 := NB434_398.out
                         have hms76_2 := NB434_424.out
                         refine skip_ (w1 := ?_) (by rfl) rfl ?_ ?_
                         rotate_left
                         · go_simp
                           rfl
                         refine hK.out _ _ ⟨((cell_far (p := ⟨gb434, _, none⟩) NB424_434.out _).trans (((cell_far (p := ⟨gb434, _, none⟩) NB424_434.out _).trans (((cell_far (p := ⟨gb434, _, none⟩) NB424_434.out _).trans (hHeld.1)))))), ((cell_far (p := ⟨gb434, _, none⟩) NB424_434.out _).trans (((cell_far (p := ⟨gb434, _, none⟩) NB424_434.out _).trans (((cell_far (p := ⟨gb434, _, none⟩) NB424_434.out _).trans (hHeld.2.1)))))), ((cell_far (p := ⟨gb434, _, none⟩) NB424_434.out _).trans (((cell_far (p := ⟨gb434, _, none⟩) NB424_434.out _).trans (((cell_far (p := ⟨gb434, _, none⟩) NB424_434.out _).trans (hHeld.2.2))))))⟩ (fun hHeld => ?_)
                         clear hK K
                         refine done_ (done_of HT_.out (by kernel_rfl)) ?_
                         try go_wp2
                         have n0_ : Aside0 (Kd.R (Kd.int .u8) 5 (((w72.setCell ⟨gb434, 0, none⟩ (.int .i64 t429)).setCell ⟨gb434, 1, none⟩ (.slice Ao74 t430.length co74)).setCell ⟨gb434, 2, none⟩ (.string t433)) w.heap.size (fun _ => True) (.slice Ao10 t381.length co10) t381) := ⟨(pT (Kd.R_mono (Kd.R_far (p := ⟨gb434, 2, none⟩) (Kd.R_far (p := ⟨gb434, 1, none⟩) (Kd.R_far (p := ⟨gb434, 0, none⟩) (Kd.R_types HO_4.out BK434.out (by decide)) (fun _ hk => hk.2) (.int .i64 t429)) (fun _ hk => hk.2) (.slice Ao74 t430.length co74)) (fun _ hk => hk.2) (.string t433)) (fun _ hk => trivial)))⟩
                         have n1_ : Aside0 (Kd.R Kd.string 9 (((w72.setCell ⟨gb434, 0, none⟩ (.int .i64 t429)).setCell ⟨gb434, 1, none⟩ (.slice Ao74 t430.length co74)).setCell ⟨gb434, 2, none⟩ (.string t433)) w.heap.size (fun k_ => some k_ ≠ (.slice Ao66 t420.length co66 : Value).ownBlock ∧ some k_ ≠ (.slice Ao74 t430.length co74 : Value).ownBlock) (.slice Ao14 t385.length co14) t385) := ⟨(pT (Kd.R_mono (Kd.R_far (p := ⟨gb434, 2, none⟩) (Kd.R_far (p := ⟨gb434, 1, none⟩) (Kd.R_far (p := ⟨gb434, 0, none⟩) (Kd.R_types HO_390001.out BK434.out (by decide)) (fun _ hk => hk.2) (.int .i64 t429)) (fun _ hk => hk.2) (.slice Ao74 t430.length co74)) (fun _ hk => hk.2) (.string t433)) (fun _ hk => ⟨hk.1.1, hk.1.2⟩)))⟩
                         have n2_ : Aside0 (Kd.R k81 81 (((w72.setCell ⟨gb434, 0, none⟩ (.int .i64 t429)).setCell ⟨gb434, 1, none⟩ (.slice Ao74 t430.length co74)).setCell ⟨gb434, 2, none⟩ (.string t433)) w.heap.size (fun _ => True) (.slice Ao21 t395.length co21) t395) := ⟨(pT (Kd.R_mono (Kd.R_far (p := ⟨gb434, 2, none⟩) (Kd.R_far (p := ⟨gb434, 1, none⟩) (Kd.R_far (p := ⟨gb434, 0, none⟩) (Kd.R_types HO_399001.out BK434.out (by decide)) (fun _ hk => hk.2) (.int .i64 t429)) (fun _ hk => hk.2) (.slice Ao74 t430.length co74)) (fun _ hk => hk.2) (.string t433)) (fun _ hk => trivial)))⟩
                         have n3_ : Aside0 (Kd.R Kd.string 9 (((w72.setCell ⟨gb434, 0, none⟩ (.int .i64 t429)).setCell ⟨gb434, 1, none⟩ (.slice Ao74 t430.length co74)).setCell ⟨gb434, 2, none⟩ (.string t433)) w.heap.size (fun k_ => some k_ ≠ (.slice Ao14 t385.length co14 : Value).ownBlock ∧ some k_ ≠ (.slice Ao74 t430.length co74 : Value).ownBlock) (.slice Ao66 t420.length co66) t420) := ⟨(pT (Kd.R_mono (Kd.R_far (p := ⟨gb434, 2, none⟩) (Kd.R_far (p := ⟨gb434, 1, none⟩) (Kd.R_far (p := ⟨gb434, 0, none⟩) (Kd.R_types HO422.out BK434.out (by decide)) (fun _ hk => hk.2) (.int .i64 t429)) (fun _ hk => hk.2) (.slice Ao74 t430.length co74)) (fun _ hk => hk.2) (.string t433)) (fun _ hk => ⟨hk.1.2, hk.1.1⟩)))⟩
                         have n4_ : Aside0 (Kd.R Kd.string 9 (((w72.setCell ⟨gb434, 0, none⟩ (.int .i64 t429)).setCell ⟨gb434, 1, none⟩ (.slice Ao74 t430.length co74)).setCell ⟨gb434, 2, none⟩ (.string t433)) w.heap.size (fun k_ => some k_ ≠ (.slice Ao14 t385.length co14 : Value).ownBlock ∧ some k_ ≠ (.slice Ao66 t420.length co66 : Value).ownBlock) (.slice Ao74 t430.length co74) t430) := ⟨(pT (Kd.R_mono (Kd.R_far (p := ⟨gb434, 2, none⟩) (Kd.R_far (p := ⟨gb434, 1, none⟩) (Kd.R_far (p := ⟨gb434, 0, none⟩) (Kd.R_types HO432.out BK434.out (by decide)) (fun _ hk => hk.2) (.int .i64 t429)) (fun _ hk => hk.2) (.slice Ao74 t430.length co74)) (fun _ hk => hk.2) (.string t433)) (fun _ hk => ⟨hk.1.2, hk.1.1⟩)))⟩
                         have n5_ : Aside0 ((((w72.setCell ⟨gb434, 0, none⟩ (.int .i64 t429)).setCell ⟨gb434, 1, none⟩ (.slice Ao74 t430.length co74)).setCell ⟨gb434, 2, none⟩ (.string t433)).heap[gb389]? = some (.cells #[.int .i64 t384, .slice Ao14 t385.length co14, .string t388] 53 (0, 0))) := ⟨by (with_reducible repeat (first | refine blk_drewN ?_ _ | refine blk_drew ?_ | refine blk_alloc ?_ _)); refine blk_far ?_ NB389_434.out _; (with_reducible repeat (first | refine blk_drewN ?_ _ | refine blk_drew ?_ | refine blk_alloc ?_ _)); refine blk_far ?_ NB389_434.out _; (with_reducible repeat (first | refine blk_drewN ?_ _ | refine blk_drew ?_ | refine blk_alloc ?_ _)); refine blk_far ?_ NB389_434.out _; (with_reducible repeat (first | refine blk_drewN ?_ _ | refine blk_drew ?_ | refine blk_alloc ?_ _)); exact BK389.out⟩
                         have n6_ : Aside0 ((((w72.setCell ⟨gb434, 0, none⟩ (.int .i64 t429)).setCell ⟨gb434, 1, none⟩ (.slice Ao74 t430.length co74)).setCell ⟨gb434, 2, none⟩ (.string t433)).heap[gb398]? = some (.cells #[.int .i64 t394, .slice Ao21 t395.length co21] 58 (0, 0))) := ⟨by (with_reducible repeat (first | refine blk_drewN ?_ _ | refine blk_drew ?_ | refine blk_alloc ?_ _)); refine blk_far ?_ NB398_434.out _; (with_reducible repeat (first | refine blk_drewN ?_ _ | refine blk_drew ?_ | refine blk_alloc ?_ _)); refine blk_far ?_ NB398_434.out _; (with_reducible repeat (first | refine blk_drewN ?_ _ | refine blk_drew ?_ | refine blk_alloc ?_ _)); refine blk_far ?_ NB398_434.out _; (with_reducible repeat (first | refine blk_drewN ?_ _ | refine blk_drew ?_ | refine blk_alloc ?_ _)); exact BK398.out⟩
                         have n7_ : Aside0 ((((w72.setCell ⟨gb434, 0, none⟩ (.int .i64 t429)).setCell ⟨gb434, 1, none⟩ (.slice Ao74 t430.length co74)).setCell ⟨gb434, 2, none⟩ (.string t433)).heap[gb424]? = some (.cells #[.int .i64 t419, .slice Ao66 t420.length co66, .string t423] 53 (0, 0))) := ⟨by (with_reducible repeat (first | refine blk_drewN ?_ _ | refine blk_drew ?_ | refine blk_alloc ?_ _)); refine blk_far ?_ NB424_434.out _; (with_reducible repeat (first | refine blk_drewN ?_ _ | refine blk_drew ?_ | refine blk_alloc ?_ _)); refine blk_far ?_ NB424_434.out _; (with_reducible repeat (first | refine blk_drewN ?_ _ | refine blk_drew ?_ | refine blk_alloc ?_ _)); refine blk_far ?_ NB424_434.out _; (with_reducible repeat (first | refine blk_drewN ?_ _ | refine blk_drew ?_ | refine blk_alloc ?_ _)); exact BK424.out⟩
                         have n8_ : Aside0 ((((w72.setCell ⟨gb434, 0, none⟩ (.int .i64 t429)).setCell ⟨gb434, 1, none⟩ (.slice Ao74 t430.length co74)).setCell ⟨gb434, 2, none⟩ (.string t433)).heap[gb434]? = some (.cells #[.int .i64 t429, .slice Ao74 t430.length co74, .string t433] 53 (0, 0))) := ⟨by (with_reducible repeat (first | refine blk_drewN ?_ _ | refine blk_drew ?_ | refine blk_alloc ?_ _)); refine blk_put (cs := #[.int .i64 t429, .slice Ao74 t430.length co74, .string (⟨#[]⟩ : ByteArray)]) ?_ 2 _ rfl; (with_reducible repeat (first | refine blk_drewN ?_ _ | refine blk_drew ?_ | refine blk_alloc ?_ _)); refine blk_put (cs := #[.int .i64 t429, .slice none 0 0, .string (⟨#[]⟩ : ByteArray)]) ?_ 1 _ rfl; (with_reducible repeat (first | refine blk_drewN ?_ _ | refine blk_drew ?_ | refine blk_alloc ?_ _)); refine blk_put (cs := #[.int .i64 0, .slice none 0 0, .string (⟨#[]⟩ : ByteArray)]) ?_ 0 _ rfl; (with_reducible repeat (first | refine blk_drewN ?_ _ | refine blk_drew ?_ | refine blk_alloc ?_ _)); exact BK434.out⟩
                         have n9_ : Aside0 (Below w.heap.size w (((w72.setCell ⟨gb434, 0, none⟩ (.int .i64 t429)).setCell ⟨gb434, 1, none⟩ (.slice Ao74 t430.length co74)).setCell ⟨gb434, 2, none⟩ (.string t433))) := ⟨pB⟩
                         (try clear HO_4); (try clear HO_390001); (try clear HO_399001); (try clear HO422); (try clear HO432); (try clear BK389); (try clear BK398); (try clear BK424); (try clear BK434); (try clear HB)
                         generalize (((w72.setCell ⟨gb434, 0, none⟩ (.int .i64 t429)).setCell ⟨gb434, 1, none⟩ (.slice Ao74 t430.length co74)).setCell ⟨gb434, 2, none⟩ (.string t433)) = w77 at n0_ n1_ n2_ n3_ n4_ n5_ n6_ n7_ n8_ n9_ ⊢
                         have HO_4 := n0_
                         have HO_390001 := n1_
                         have HO_399001 := n2_
                         have HO422 := n3_
                         have HO432 := n4_
                         have BK389 := n5_
                         have BK398 := n6_
                         have BK424 := n7_
                         have BK434 := n8_
                         have HB := n9_
                         clear n0_ n1_ n2_ n3_ n4_ n5_ n6_ n7_ n8_ n9_
                         have n_ := t10 (Kd.R_drew HO_4.out) (Kd.R_drew HO_390001.out) (Kd.R_drew HO_399001.out) (Kd.R_drew HO422.out) (Kd.R_drew HO432.out) (blk_drew BK389.out) (blk_drew BK398.out) (blk_drew BK424.out) (blk_drew BK434.out) (below_drew1 HB.out)
                         clear HO_4 HO_390001 HO_399001 HO422 HO432 BK389 BK398 BK424 BK434 HB; obtain ⟨HO_4, HO_390001, HO_399001, HO422, HO432, BK389, BK398, BK424, BK434, HB⟩ := n_
                         refine start_ (n := 37) (S := fun w' => w'.cell? ⟨gb424, 0, none⟩ = some (.int .i64 t419) ∧ w'.cell? ⟨gb424, 1, none⟩ = some (.slice Ao66 t420.length co66) ∧ w'.cell? ⟨gb424, 2, none⟩ = some (.string t423) ∧ w'.cell? ⟨gb434, 0, none⟩ = some (.int .i64 t429) ∧ w'.cell? ⟨gb434, 1, none⟩ = some (.slice Ao74 t430.length co74) ∧ w'.cell? ⟨gb434, 2, none⟩ = some (.string t433) ∧ w'.cell? ⟨gb389, 0, none⟩ = some (.int .i64 t384) ∧ w'.cell? ⟨gb389, 1, none⟩ = some (.slice Ao14 t385.length co14) ∧ w'.cell? ⟨gb389, 2, none⟩ = some (.string t388)) (ds := []) #[false, false, false, false, false, false, false, false, false, false, false, false, false, false, false, false, false, false, false, false, false, false, false, false, false, false, false, false, false, false, false, false, false, false, false, false, false] (by kernel_rfl) rfl rfl ⟨(blk_cell BK424.out 0).trans rfl, (blk_cell BK424.out 1).trans rfl, (blk_cell BK424.out 2).trans rfl, (blk_cell BK434.out 0).trans rfl, (blk_cell BK434.out 1).trans rfl, (blk_cell BK434.out 2).trans rfl, (blk_cell BK389.out 0).trans rfl, (blk_cell BK389.out 1).trans rfl, (blk_cell BK389.out 2).trans rfl⟩ (fun hHeld => ?_); refine with_tabW laws_FnCuts.tab14 laws_FnCuts.bits14 (fun HT_ HW_ => ?_)
                         generalize w77.drew = w78 at HO_4 HO_390001 HO_399001 HO422 HO432 BK389 BK398 BK424 BK434 HB hHeld ⊢
                         refine pure_ (i := 0) (N := some 84) (v := ?_) (a' := ?_) #[true, false, false, false, false, false, false, false, false, false, false, false, false, false, false, false, false, false, false, false, false, false, false, false, false, false, false, false, false, false, false, false, false, false, false, false, false] rfl rfl (any_of HT_.out (by kernel_rfl)) (fun _ _ _ h => h) (Or.inl ⟨by rfl, ?_⟩) ?_ ?_
                         rotate_left
                         · intro w'
                           go_simp
                           with_reducible rfl
                         rotate_left
                         · simp only [Act.put, List.setIfInBounds_toArray, List.set_cons_zero, List.set_cons_succ, i64_w, i32_w]
                           rfl
                         refine take_ (i := 1) (N := some 85) (v := ?_) (a' := ?_) #[true, true, false, false, false, false, false, false, false, false, false, false, false, false, false, false, false, false, false, false, false, false, false, false, false, false, false, false, false, false, false, false, false, false, false, false, false] rfl rfl (take_ofW HT_.out HW_.out (by kernel_rfl)) (fun _ _ _ h => h) (Or.inl ⟨by rfl, ?_⟩) hHeld ?_ ?_
                         rotate_left
                         · rintro w' ⟨s0, s1, s2, s3, s4, s5, s6, s7, s8⟩
                           go_simp
                           with_reducible rfl
                         rotate_left
                         · simp only [Act.put, List.setIfInBounds_toArray, List.set_cons_zero, List.set_cons_succ, i64_w, i32_w]
                           rfl
                         refine pure_ (i := 2) (N := some 86) (v := ?_) (a' := ?_) #[true, true, true, false, false, false, false, false, false, false, false, false, false, false, false, false, false, false, false, false, false, false, false, false, false, false, false, false, false, false, false, false, false, false, false, false, false] rfl rfl (any_of HT_.out (by kernel_rfl)) (fun _ _ _ h => h) (Or.inl ⟨by rfl, ?_⟩) ?_ ?_
                         rotate_left
                         · intro w'
                           go_simp
                           with_reducible rfl
                         rotate_left
                         · simp only [Act.put, List.setIfInBounds_toArray, List.set_cons_zero, List.set_cons_succ, i64_w, i32_w]
                           rfl
                         refine pure_ (i := 3) (N := some 87) (v := ?_) (a' := ?_) #[true, true, true, true, false, false, false, false, false, false, false, false, false, false, false, false, false, false, false, false, false, false, false, false, false, false, false, false, false, false, false, false, false, false, false, false, false] rfl rfl (any_of HT_.out (by kernel_rfl)) (fun _ _ _ h => h) (Or.inl ⟨by rfl, ?_⟩) ?_ ?_
                         rotate_left
                         · intro w'
                           go_simp
                           with_reducible rfl
                         rotate_left
                         · simp only [Act.put, List.setIfInBounds_toArray, List.set_cons_zero, List.set_cons_succ, i64_w, i32_w]
                           rfl
                         refine pure_ (i := 4) (N := some 88) (v := ?_) (a' := ?_) #[true, true, true, true, true, false, false, false, false, false, false, false, false, false, false, false, false, false, false, false, false, false, false, false, false, false, false, false, false, false, false, false, false, false, false, false, false] rfl rfl (any_of HT_.out (by kernel_rfl)) (fun _ _ _ h => h) (Or.inl ⟨by rfl, ?_⟩) ?_ ?_
                         rotate_left
                         · intro w'
                           go_simp
                           with_reducible rfl
                         rotate_left
                         · simp only [Act.put, List.setIfInBounds_toArray, List.set_cons_zero, List.set_cons_succ, i64_w, i32_w]
                           rfl
                         refine take_ (i := 5) (N := some 89) (v := ?_) (a' := ?_) #[true, true, true, true, true, true, false, false, false, false, false, false, false, false, false, false, false, false, false, false, false, false, false, false, false, false, false, false, false, false, false, false, false, false, false, false, false] rfl rfl (take_ofW HT_.out HW_.out (by kernel_rfl)) (fun _ _ _ h => h) (Or.inl ⟨by rfl, ?_⟩) hHeld ?_ ?_
                         rotate_left
                         · rintro w' ⟨s0, s1, s2, s3, s4, s5, s6, s7, s8⟩
                           go_simp
                           with_reducible rfl
                         rotate_left
                         · simp only [Act.put, List.setIfInBounds_toArray, List.set_cons_zero, List.set_cons_succ, i64_w, i32_w]
                           rfl
                         refine pure_ (i := 6) (N := some 90) (v := ?_) (a' := ?_) #[true, true, true, true, true, true, true, false, false, false, false, false, false, false, false, false, false, false, false, false, false, false, false, false, false, false, false, false, false, false, false, false, false, false, false, false, false] rfl rfl (any_of HT_.out (by kernel_rfl)) (fun _ _ _ h => h) (Or.inl ⟨by rfl, ?_⟩) ?_ ?_
                         rotate_left
                         · intro w'
                           go_simp
                           with_reducible rfl
                         rotate_left
                         · simp only [Act.put, List.setIfInBounds_toArray, List.set_cons_zero, List.set_cons_succ, i64_w, i32_w]
                           rfl
                         refine pure_ (i := 7) (N := some 91) (v := ?_) (a' := ?_) #[true, true, true, true, true, true, true, true, false, false, false, false, false, false, false, false, false, false, false, false, false, false, false, false, false, false, false, false, false, false, false, false, false, false, false, false, false] rfl rfl (any_of HT_.out (by kernel_rfl)) (fun _ _ _ h => h) (Or.inl ⟨by rfl, ?_⟩) ?_ ?_
                         rotate_left
                         · intro w'
                           go_simp
                           with_reducible rfl
                         rotate_left
                         · simp only [Act.put, List.setIfInBounds_toArray, List.set_cons_zero, List.set_cons_succ, i64_w, i32_w]
                           rfl
                         refine pure_ (i := 8) (N := some 92) (v := ?_) (a' := ?_) #[true, true, true, true, true, true, true, true, true, false, false, false, false, false, false, false, false, false, false, false, false, false, false, false, false, false, false, false, false, false, false, false, false, false, false, false, false] rfl rfl (any_of HT_.out (by kernel_rfl)) (fun _ _ _ h => h) (Or.inl ⟨by rfl, ?_⟩) ?_ ?_
                         rotate_left
                         · intro w'
                           go_simp
                           with_reducible rfl
                         rotate_left
                         · simp only [Act.put, List.setIfInBounds_toArray, List.set_cons_zero, List.set_cons_succ, i64_w, i32_w]
                           rfl
                         refine pure_ (i := 9) (N := some 93) (v := ?_) (a' := ?_) #[true, true, true, true, true, true, true, true, true, true, false, false, false, false, false, false, false, false, false, false, false, false, false, false, false, false, false, false, false, false, false, false, false, false, false, false, false] rfl rfl (any_of HT_.out (by kernel_rfl)) (fun _ _ _ h => h) (Or.inl ⟨by rfl, ?_⟩) ?_ ?_
                         rotate_left
                         · intro w'
                           go_simp
                           with_reducible rfl
                         rotate_left
                         · simp only [Act.put, List.setIfInBounds_toArray, List.set_cons_zero, List.set_cons_succ, i64_w, i32_w]
                           rfl
                         refine pure_ (i := 11) (N := some 95) (v := ?_) (a' := ?_) #[true, true, true, true, true, true, true, true, true, true, false, true, false, false, false, false, false, false, false, false, false, false, false, false, false, false, false, false, false, false, false, false, false, false, false, false, false] rfl rfl (any_of HT_.out (by kernel_rfl)) (fun _ _ _ h => h) (Or.inl ⟨by rfl, ?_⟩) ?_ ?_
                         rotate_left
                         · intro w'
                           go_simp
                           with_reducible rfl
                         rotate_left
                         · simp only [Act.put, List.setIfInBounds_toArray, List.set_cons_zero, List.set_cons_succ, i64_w, i32_w]
                           rfl
                         refine take_ (i := 10) (N := some 94) (v := ?_) (a' := ?_) #[true, true, true, true, true, true, true, true, true, true, true, true, false, false, false, false, false, false, false, false, false, false, false, false, false, false, false, false, false, false, false, false, false, false, false, false, false] rfl rfl (take_ofW HT_.out HW_.out (by kernel_rfl)) (fun _ _ _ h => h) (Or.inl ⟨by rfl, ?_⟩) hHeld ?_ ?_
                         rotate_left
                         · rintro w' ⟨s0, s1, s2, s3, s4, s5, s6, s7, s8⟩
                           go_simp
                           with_reducible rfl
                         rotate_left
                         · simp only [Act.put, List.setIfInBounds_toArray, List.set_cons_zero, List.set_cons_succ, i64_w, i32_w]
                           rfl
                         refine take_ (i := 12) (N := some 96) (v := ?_) (a' := ?_) #[true, true, true, true, true, true, true, true, true, true, true, true, true, false, false, false, false, false, false, false, false, false, false, false, false, false, false, false, false, false, false, false, false, false, false, false, false] rfl rfl (take_ofW HT_.out HW_.out (by kernel_rfl)) (fun _ _ _ h => h) (Or.inl ⟨by rfl, ?_⟩) hHeld ?_ ?_
                         rotate_left
                         · rintro w' ⟨s0, s1, s2, s3, s4, s5, s6, s7, s8⟩
                           go_simp
                           with_reducible rfl
                         rotate_left
                         · simp only [Act.put, List.setIfInBounds_toArray, List.set_cons_zero, List.set_cons_succ, i64_w, i32_w]
                           rfl
                         refine pure_ (i := 13) (N := some 97) (v := ?_) (a' := ?_) #[true, true, true, true, true, true, true, true, true, true, true, true, true, true, false, false, false, false, false, false, false, false, false, false, false, false, false, false, false, false, false, false, false, false, false, false, false] rfl rfl (any_of HT_.out (by kernel_rfl)) (fun _ _ _ h => h) (Or.inl ⟨by rfl, ?_⟩) ?_ ?_
                         rotate_left
                         · intro w'
                           go_simp
                           with_reducible rfl
                         rotate_left
                         · simp only [Act.put, List.setIfInBounds_toArray, List.set_cons_zero, List.set_cons_succ, i64_w, i32_w]
                           rfl
                         refine pure_ (i := 14) (N := some 98) (v := ?_) (a' := ?_) #[true, true, true, true, true, true, true, true, true, true, true, true, true, true, true, false, false, false, false, false, false, false, false, false, false, false, false, false, false, false, false, false, false, false, false, false, false] rfl rfl (any_of HT_.out (by kernel_rfl)) (fun _ _ _ h => h) (Or.inl ⟨by rfl, ?_⟩) ?_ ?_
                         rotate_left
                         · intro w'
                           go_simp
                           with_reducible rfl
                         rotate_left
                         · simp only [Act.put, List.setIfInBounds_toArray, List.set_cons_zero, List.set_cons_succ, i64_w, i32_w]
                           rfl
                         refine pure_ (i := 15) (N := some 99) (v := ?_) (a' := ?_) #[true, true, true, true, true, true, true, true, true, true, true, true, true, true, true, true, false, false, false, false, false, false, false, false, false, false, false, false, false, false, false, false, false, false, false, false, false] rfl rfl (any_of HT_.out (by kernel_rfl)) (fun _ _ _ h => h) (Or.inl ⟨by rfl, ?_⟩) ?_ ?_
                         rotate_left
                         · intro w'
                           go_simp
                           with_reducible rfl
                         rotate_left
                         · simp only [Act.put, List.setIfInBounds_toArray, List.set_cons_zero, List.set_cons_succ, i64_w, i32_w]
                           rfl
                         refine pure_ (i := 17) (N := some 101) (v := ?_) (a' := ?_) #[true, true, true, true, true, true, true, true, true, true, true, true, true, true, true, true, false, true, false, false, false, false, false, false, false, false, false, false, false, false, false, false, false, false, false, false, false] rfl rfl (any_of HT_.out (by kernel_rfl)) (fun _ _ _ h => h) (Or.inl ⟨by rfl, ?_⟩) ?_ ?_
                         rotate_left
                         · intro w'
                           go_simp
                           with_reducible rfl
                         rotate_left
                         · simp only [Act.put, List.setIfInBounds_toArray, List.set_cons_zero, List.set_cons_succ, i64_w, i32_w]
                           rfl
                         refine pure_ (i := 20) (N := some 104) (v := ?_) (a' := ?_) #[true, true, true, true, true, true, true, true, true, true, true, true, true, true, true, true, false, true, false, false, true, false, false, false, false, false, false, false, false, false, false, false, false, false, false, false, false] rfl rfl (any_of HT_.out (by kernel_rfl)) (fun _ _ _ h => h) (Or.inl ⟨by rfl, ?_⟩) ?_ ?_
                         rotate_left
                         · intro w'
                           go_simp
                           with_reducible rfl
                         rotate_left
                         · simp only [Act.put, List.setIfInBounds_toArray, List.set_cons_zero, List.set_cons_succ, i64_w, i32_w]
                           rfl
                         refine pure_ (i := 23) (N := some 107) (v := ?_) (a' := ?_) #[true, true, true, true, true, true, true, true, true, true, true, true, true, true, true, true, false, true, false, false, true, false, false, true, false, false, false, false, false, false, false, false, false, false, false, false, false] rfl rfl (any_of HT_.out (by kernel_rfl)) (fun _ _ _ h => h) (Or.inl ⟨by rfl, ?_⟩) ?_ ?_
                         rotate_left
                         · intro w'
                           go_simp
                           with_reducible rfl
                         rotate_left
                         · simp only [Act.put, List.setIfInBounds_toArray, List.set_cons_zero, List.set_cons_succ, i64_w, i32_w]
                           rfl
                         refine take_ (i := 18) (N := some 102) (v := ?_) (a' := ?_) #[true, true, true, true, true, true, true, true, true, true, true, true, true, true, true, true, false, true, true, false, true, false, false, true, false, false, false, false, false, false, false, false, false, false, false, false, false] rfl rfl (take_ofW HT_.out HW_.out (by kernel_rfl)) (fun _ _ _ h => h) (Or.inl ⟨by rfl, ?_⟩) hHeld ?_ ?_
                         rotate_left
                         · rintro w' ⟨s0, s1, s2, s3, s4, s5, s6, s7, s8⟩
                           go_simp
                           with_reducible rfl
                         rotate_left
                         · simp only [Act.put, List.setIfInBounds_toArray, List.set_cons_zero, List.set_cons_succ, i64_w, i32_w]
                           rfl
                         refine take_ (i := 21) (N := some 105) (v := ?_) (a' := ?_) #[true, true, true, true, true, true, true, true, true, true, true, true, true, true, true, true, false, true, true, false, true, true, false, true, false, false, false, false, false, false, false, false, false, false, false, false, false] rfl rfl (take_ofW HT_.out HW_.out (by kernel_rfl)) (fun _ _ _ h => h) (Or.inl ⟨by rfl, ?_⟩) hHeld ?_ ?_
                         rotate_left
                         · rintro w' ⟨s0, s1, s2, s3, s4, s5, s6, s7, s8⟩
                           go_simp
                           with_reducible rfl
                         rotate_left
                         · simp only [Act.put, List.setIfInBounds_toArray, List.set_cons_zero, List.set_cons_succ, i64_w, i32_w]
                           rfl
                         refine take_ (i := 24) (N := some 108) (v := ?_) (a' := ?_) #[true, true, true, true, true, true, true, true, true, true, true, true, true, true, true, true, false, true, true, false, true, true, false, true, true, false, false, false, false, false, false, false, false, false, false, false, false] rfl rfl (take_ofW HT_.out HW_.out (by kernel_rfl)) (fun _ _ _ h => h) (Or.inl ⟨by rfl, ?_⟩) hHeld ?_ ?_
                         rotate_left
                         · rintro w' ⟨s0, s1, s2, s3, s4, s5, s6, s7, s8⟩
                           go_simp
                           with_reducible rfl
                         rotate_left
                         · simp only [Act.put, List.setIfInBounds_toArray, List.set_cons_zero, List.set_cons_succ, i64_w, i32_w]
                           rfl
                         refine one_ (i := 16) (N := some 100) #[true, true, true, true, true, true, true, true, true, true, true, true, true, true, true, true, true, true, true, false, true, true, false, true, true, false, false, false, false, false, false, false, false, false, false, false, false] rfl rfl (one_of HT_.out (by kernel_rfl)) (by decide) (fun K hK => ?_)
                         refine Kd.R_lit_step Kd.string _ 9 ?hg (N := 100) ?hd (xs := ([] : List ByteArray)) (inner := []) (ok := fun _ => True) (okp := fun _ => True) ?hr ?hp (fun _ hk => hk) trivial (Below.refl _ _) (Nat.le_refl _) (by simp) ?_; (case hd => rfl); (case hg => rfl); (case hr => first | (go_simp; done) | (go_simp; rfl)); (case hp => exact (Reps.none _ _))
                         intro v436 w79 ho80 hb hg_ hnew_
                         clear hg_ hnew_
                         (first | rw [← Ny435.out] at ho80 | (simp only [Int.reduceToNat] at ho80; rw [← Ny435.out] at ho80))
                         have n_ := t11 (Kd.R_below (pR HO_4) hb) (rE (pR HO_390001) (rB ho80) hb) (Kd.R_below (pR HO_399001) hb) (rE (pR HO422) (rB ho80) hb) (rE (pR HO432) (rB ho80) hb) (rL (rW (rW (rW ho80 (Kd.R_lt (pR HO_390001))) (Kd.R_lt (pR HO422))) (Kd.R_lt (pR HO432))) (bs_ pB)) (blk_below (g := gb389) (o := .cells #[.int .i64 t384, .slice Ao14 t385.length co14, .string t388] 53 (0, 0)) (pK BK389) hb) (blk_below (g := gb398) (o := .cells #[.int .i64 t394, .slice Ao21 t395.length co21] 58 (0, 0)) (pK BK398) hb) (blk_below (g := gb424) (o := .cells #[.int .i64 t419, .slice Ao66 t420.length co66, .string t423] 53 (0, 0)) (pK BK424) hb) (blk_below (g := gb434) (o := .cells #[.int .i64 t429, .slice Ao74 t430.length co74, .string t433] 53 (0, 0)) (pK BK434) hb) (bz_ pB hb)
                         clear HO_4 HO_390001 HO_399001 HO422 HO432 BK389 BK398 BK424 BK434 HB; obtain ⟨HO_4, HO_390001, HO_399001, HO422, HO432, HO437, BK389, BK398, BK424, BK434, HB⟩ := n_; clear hb ho80
                         refine hK.out _ _ ⟨(blk_cell BK424.out 0).trans rfl, (blk_cell BK424.out 1).trans rfl, (blk_cell BK424.out 2).trans rfl, (blk_cell BK434.out 0).trans rfl, (blk_cell BK434.out 1).trans rfl, (blk_cell BK434.out 2).trans rfl, (blk_cell BK389.out 0).trans rfl, (blk_cell BK389.out 1).trans rfl, (blk_cell BK389.out 2).trans rfl⟩ (fun hHeld => ?_)
                         clear hK K
                         refine norm_ (a' := ?_) ?_ ?_
                         rotate_left
                         · show Act.put _ (some 100) _ = _
                           simp only [Act.put, List.setIfInBounds_toArray, List.set_cons_zero, List.set_cons_succ, i64_w, i32_w]
                           rfl
                         refine one_ (i := 19) (N := some 103) #[true, true, true, true, true, true, true, true, true, true, true, true, true, true, true, true, true, true, true, true, true, true, false, true, true, false, false, false, false, false, false, false, false, false, false, false, false] rfl rfl (one_of HT_.out (by kernel_rfl)) (by decide) (fun K hK => ?_)
                         refine Kd.R_append_rows_step Kd.string (w0 := w) w.heap.size (by rfl) (.tmp 100) (.tmp 102) 22 9 (.string ⟨#[]⟩) 16 rfl Tryd.underlying22 info9 rfl (by decide) (by omega) v436 y435 t420 _ _ _ (fun k_ => some k_ ≠ (.slice Ao14 t385.length co14 : Value).ownBlock ∧ some k_ ≠ (.slice Ao66 t420.length co66 : Value).ownBlock ∧ some k_ ≠ (.slice Ao74 t430.length co74 : Value).ownBlock) (fun _ => False) rfl rfl ?aO ?aR (fun _ _ h => h) (fun _ h => h.elim) ?aF ?aB ?aS ?aL ?_
                         (case aR => exact pC (rr HO422.out).2.2)
                         (case aB => exact pB)
                         (case aF => exact (fun k_ hk => ⟨Kd.fresh' (Kd.R_lt (pR HO_390001)) k_ hk, Kd.fresh' (Kd.R_lt (pR HO422)) k_ hk, Kd.fresh' (Kd.R_lt (pR HO432)) k_ hk⟩))
                         (case aO => exact (pT (Kd.R_mono HO437.out (fun _ hk => ⟨hk.1.1.2, ⟨hk.1.2, hk.2⟩⟩))))
                         (case aS => exact (bs_ pB))
                         (case aL => have := LMc52.out; omega)
                         intro v439 w81 ho hb hg hat
                         rw [← Ny438.out] at ho
                         have n_ := t11 (Kd.R_over' (pR HO_4) (Kd.R_typed (pR HO437)) (by decide) hg) (Kd.R_after (ok := (fun k_ => some k_ ≠ (.slice Ao66 t420.length co66 : Value).ownBlock ∧ some k_ ≠ (.slice Ao74 t430.length co74 : Value).ownBlock)) (pR HO_390001) hg hat) (Kd.R_over' (pR HO_399001) (Kd.R_typed (pR HO437)) (by decide) hg) (blk_grown (g := gb389) (o := .cells #[.int .i64 t384, .slice Ao14 t385.length co14, .string t388] 53 (0, 0)) (pK BK389) hg (Kd.R_ne HO437.out BK389.out (by decide))) (blk_grown (g := gb398) (o := .cells #[.int .i64 t394, .slice Ao21 t395.length co21] 58 (0, 0)) (pK BK398) hg (Kd.R_ne HO437.out BK398.out (by decide))) (Kd.R_after (ok := (fun k_ => some k_ ≠ (.slice Ao14 t385.length co14 : Value).ownBlock ∧ some k_ ≠ (.slice Ao74 t430.length co74 : Value).ownBlock)) (pR HO422) hg hat) (blk_grown (g := gb424) (o := .cells #[.int .i64 t419, .slice Ao66 t420.length co66, .string t423] 53 (0, 0)) (pK BK424) hg (Kd.R_ne HO437.out BK424.out (by decide))) (Kd.R_after (ok := (fun k_ => some k_ ≠ (.slice Ao14 t385.length co14 : Value).ownBlock ∧ some k_ ≠ (.slice Ao66 t420.length co66 : Value).ownBlock)) (pR HO432) hg hat) (blk_grown (g := gb434) (o := .cells #[.int .i64 t429, .slice Ao74 t430.length co74, .string t433] 53 (0, 0)) (pK BK434) hg (Kd.R_ne HO437.out BK434.out (by decide))) (hb) (ho)
                         clear HO_4 HO_390001 HO_399001 BK389 BK398 HO422 BK424 HO432 BK434 HB HO437; obtain ⟨HO_4, HO_390001, HO_399001, BK389, BK398, HO422, BK424, HO432, BK434, HB, HO440⟩ := n_; clear ho hb hg hat
                         refine hK.out _ _ ⟨(blk_cell BK424.out 0).trans rfl, (blk_cell BK424.out 1).trans rfl, (blk_cell BK424.out 2).trans rfl, (blk_cell BK434.out 0).trans rfl, (blk_cell BK434.out 1).trans rfl, (blk_cell BK434.out 2).trans rfl, (blk_cell BK389.out 0).trans rfl, (blk_cell BK389.out 1).trans rfl, (blk_cell BK389.out 2).trans rfl⟩ (fun hHeld => ?_)
                         clear hK K
                         refine norm_ (a' := ?_) ?_ ?_
                         rotate_left
                         · show Act.put _ (some 103) _ = _
                           simp only [Act.put, List.setIfInBounds_toArray, List.set_cons_zero, List.set_cons_succ, i64_w, i32_w]
                           rfl
                         refine one_ (i := 22) (N := some 106) #[true, true, true, true, true, true, true, true, true, true, true, true, true, true, true, true, true, true, true, true, true, true, true, true, true, false, false, false, false, false, false, false, false, false, false, false, false] rfl rfl (one_of HT_.out (by kernel_rfl)) (by decide) (fun K hK => ?_)
                         refine Kd.R_append_rows_step Kd.string (w0 := w) w.heap.size (by rfl) (.tmp 103) (.tmp 105) 22 9 (.string ⟨#[]⟩) 16 rfl Tryd.underlying22 info9 rfl (by decide) (by omega) v439 y438 t430 _ _ _ (fun k_ => some k_ ≠ (.slice Ao14 t385.length co14 : Value).ownBlock ∧ some k_ ≠ (.slice Ao66 t420.length co66 : Value).ownBlock ∧ some k_ ≠ (.slice Ao74 t430.length co74 : Value).ownBlock) (fun _ => False) rfl rfl ?aO ?aR (fun _ _ h => h) (fun _ h => h.elim) ?aF ?aB ?aS ?aL ?_
                         (case aR => exact pC (rr HO432.out).2.2)
                         (case aB => exact pB)
                         (case aF => exact (fun k_ hk => ⟨Kd.fresh' (Kd.R_lt (pR HO_390001)) k_ hk, Kd.fresh' (Kd.R_lt (pR HO422)) k_ hk, Kd.fresh' (Kd.R_lt (pR HO432)) k_ hk⟩))
                         (case aO => exact (pR HO440))
                         (case aS => exact (bs_ pB))
                         (case aL => have := LMc53.out; omega)
                         intro v442 w82 ho hb hg hat
                         rw [← Ny441.out] at ho
                         have n_ := t11 (Kd.R_over' (pR HO_4) (Kd.R_typed (pR HO440)) (by decide) hg) (Kd.R_after (ok := (fun k_ => some k_ ≠ (.slice Ao66 t420.length co66 : Value).ownBlock ∧ some k_ ≠ (.slice Ao74 t430.length co74 : Value).ownBlock)) (pR HO_390001) hg hat) (Kd.R_over' (pR HO_399001) (Kd.R_typed (pR HO440)) (by decide) hg) (blk_grown (g := gb389) (o := .cells #[.int .i64 t384, .slice Ao14 t385.length co14, .string t388] 53 (0, 0)) (pK BK389) hg (Kd.R_ne HO440.out BK389.out (by decide))) (blk_grown (g := gb398) (o := .cells #[.int .i64 t394, .slice Ao21 t395.length co21] 58 (0, 0)) (pK BK398) hg (Kd.R_ne HO440.out BK398.out (by decide))) (Kd.R_after (ok := (fun k_ => some k_ ≠ (.slice Ao14 t385.length co14 : Value).ownBlock ∧ some k_ ≠ (.slice Ao74 t430.length co74 : Value).ownBlock)) (pR HO422) hg hat) (blk_grown (g := gb424) (o := .cells #[.int .i64 t419, .slice Ao66 t420.length co66, .string t423] 53 (0, 0)) (pK BK424) hg (Kd.R_ne HO440.out BK424.out (by decide))) (Kd.R_after (ok := (fun k_ => some k_ ≠ (.slice Ao14 t385.length co14 : Value).ownBlock ∧ some k_ ≠ (.slice Ao66 t420.length co66 : Value).ownBlock)) (pR HO432) hg hat) (blk_grown (g := gb434) (o := .cells #[.int .i64 t429, .slice Ao74 t430.length co74, .string t433] 53 (0, 0)) (pK BK434) hg (Kd.R_ne HO440.out BK434.out (by decide))) (hb) (ho)
                         clear HO_4 HO_390001 HO_399001 BK389 BK398 HO422 BK424 HO432 BK434 HB HO440; obtain ⟨HO_4, HO_390001, HO_399001, BK389, BK398, HO422, BK424, HO432, BK434, HB, HO443⟩ := n_; clear ho hb hg hat
                         obtain ⟨Ao83, co83, eo83⟩ := rS HO443.out
                         (first | subst eo83 | (injection eo83 with f1_ f2_ f3_; have f4_ := f1_.symm; have f5_ := f3_.symm; clear f1_ f2_ f3_; subst f4_; subst f5_))
                         refine hK.out _ _ ⟨(blk_cell BK424.out 0).trans rfl, (blk_cell BK424.out 1).trans rfl, (blk_cell BK424.out 2).trans rfl, (blk_cell BK434.out 0).trans rfl, (blk_cell BK434.out 1).trans rfl, (blk_cell BK434.out 2).trans rfl, (blk_cell BK389.out 0).trans rfl, (blk_cell BK389.out 1).trans rfl, (blk_cell BK389.out 2).trans rfl⟩ (fun hHeld => ?_)
                         clear hK K
                         refine norm_ (a' := ?_) ?_ ?_
                         rotate_left
                         · show Act.put _ (some 106) _ = _
                           simp only [Act.put, List.setIfInBounds_toArray, List.set_cons_zero, List.set_cons_succ, i64_w, i32_w]
                           rfl
                         refine one_ (i := 25) (N := some 109) #[true, true, true, true, true, true, true, true, true, true, true, true, true, true, true, true, true, true, true, true, true, true, true, true, true, true, false, false, false, false, false, false, false, false, false, false, false] rfl rfl (one_of HT_.out (by kernel_rfl)) (by decide) (fun K hK => ?_)
                         refine goes_ Tryd.func34 (by kernel_rfl) rfl #[.slice Ao83 y441.length co83, .slice Ao14 t385.length co14] (by rfl) rfl rfl pA ?_
                         with_reducible refine (laws_lwTexts.calls kj7 _ _ y441 _ _ t385 true _ ?side1 ?side2 ?side3 ?side4 A54.out).mono ?_
                         (case side1 => exact pC (rr HO443.out).2.2)
                         (case side2 => exact (rr HO443.out).2.1)
                         (case side3 => exact pC (rr HO_390001.out).2.2)
                         (case side4 => exact (rr HO_390001.out).2.1)
                         rintro e w' ⟨rfl, ⟨nd, rfl⟩⟩
                         refine ⟨_, rfl, ?_⟩
                         refine hK.out _ _ ⟨(blk_cell BK424.out 0).trans rfl, (blk_cell BK424.out 1).trans rfl, (blk_cell BK424.out 2).trans rfl, (blk_cell BK434.out 0).trans rfl, (blk_cell BK434.out 1).trans rfl, (blk_cell BK434.out 2).trans rfl, (blk_cell BK389.out 0).trans rfl, (blk_cell BK389.out 1).trans rfl, (blk_cell BK389.out 2).trans rfl⟩ (fun hHeld => ?_)
                         clear hK K
                         refine norm_ (a' := ?_) ?_ ?_
                         rotate_left
                         · show Act.put _ (some 109) _ = _
                           simp only [Act.put, List.setIfInBounds_toArray, List.set_cons_zero, List.set_cons_succ, i64_w, i32_w]
                           rfl
                         refine pure_ (i := 26) (N := some 110) (v := ?_) (a' := ?_) #[true, true, true, true, true, true, true, true, true, true, true, true, true, true, true, true, true, true, true, true, true, true, true, true, true, true, true, false, false, false, false, false, false, false, false, false, false] rfl rfl (any_of HT_.out (by kernel_rfl)) (fun _ _ _ h => h) (Or.inl ⟨by rfl, ?_⟩) ?_ ?_
                         rotate_left
                         · intro w'
                           go_simp
                           with_reducible rfl
                         rotate_left
                         · simp only [Act.put, List.setIfInBounds_toArray, List.set_cons_zero, List.set_cons_succ, i64_w, i32_w]
                           rfl
                         refine pure_ (i := 27) (N := some 111) (v := ?_) (a' := ?_) #[true, true, true, true, true, true, true, true, true, true, true, true, true, true, true, true, true, true, true, true, true, true, true, true, true, true, true, true, false, false, false, false, false, false, false, false, false] rfl rfl (any_of HT_.out (by kernel_rfl)) (fun _ _ _ h => h) (Or.inl ⟨by rfl, ?_⟩) ?_ ?_
                         rotate_left
                         · intro w'
                           go_simp
                           with_reducible rfl
                         rotate_left
                         · simp only [Act.put, List.setIfInBounds_toArray, List.set_cons_zero, List.set_cons_succ, i64_w, i32_w]
                           rfl
                         refine pure_ (i := 28) (N := some 112) (v := ?_) (a' := ?_) #[true, true, true, true, true, true, true, true, true, true, true, true, true, true, true, true, true, true, true, true, true, true, true, true, true, true, true, true, true, false, false, false, false, false, false, false, false] rfl rfl (any_of HT_.out (by kernel_rfl)) (fun _ _ _ h => h) (Or.inl ⟨by rfl, ?_⟩) ?_ ?_
                         rotate_left
                         · intro w'
                           go_simp
                           with_reducible rfl
                         rotate_left
                         · simp only [Act.put, List.setIfInBounds_toArray, List.set_cons_zero, List.set_cons_succ, i64_w, i32_w]
                           rfl
                         refine pure_ (i := 30) (N := some 114) (v := ?_) (a' := ?_) #[true, true, true, true, true, true, true, true, true, true, true, true, true, true, true, true, true, true, true, true, true, true, true, true, true, true, true, true, true, false, true, false, false, false, false, false, false] rfl rfl (any_of HT_.out (by kernel_rfl)) (fun _ _ _ h => h) (Or.inl ⟨by rfl, ?_⟩) ?_ ?_
                         rotate_left
                         · intro w'
                           go_simp
                           with_reducible rfl
                         rotate_left
                         · simp only [Act.put, List.setIfInBounds_toArray, List.set_cons_zero, List.set_cons_succ, i64_w, i32_w]
                           rfl
                         refine pure_ (i := 31) (N := some 115) (v := ?_) (a' := ?_) #[true, true, true, true, true, true, true, true, true, true, true, true, true, true, true, true, true, true, true, true, true, true, true, true, true, true, true, true, true, false, true, true, false, false, false, false, false] rfl rfl (any_of HT_.out (by kernel_rfl)) (fun _ _ _ h => h) (Or.inl ⟨by rfl, ?_⟩) ?_ ?_
                         rotate_left
                         · intro w'
                           go_simp
                           with_reducible rfl
                         rotate_left
                         · simp only [Act.put, List.setIfInBounds_toArray, List.set_cons_zero, List.set_cons_succ, i64_w, i32_w]
                           rfl
                         refine take_ (i := 29) (N := some 113) (v := ?_) (a' := ?_) #[true, true, true, true, true, true, true, true, true, true, true, true, true, true, true, true, true, true, true, true, true, true, true, true, true, true, true, true, true, true, true, true, false, false, false, false, false] rfl rfl (take_ofW HT_.out HW_.out (by kernel_rfl)) (fun _ _ _ h => h) (Or.inl ⟨by rfl, ?_⟩) hHeld ?_ ?_
                         rotate_left
                         · rintro w' ⟨s0, s1, s2, s3, s4, s5, s6, s7, s8⟩
                           go_simp
                           with_reducible rfl
                         rotate_left
                         · simp only [Act.put, List.setIfInBounds_toArray, List.set_cons_zero, List.set_cons_succ, i64_w, i32_w]
                           rfl
                         refine one_ (i := 32) (N := some 116) #[true, true, true, true, true, true, true, true, true, true, true, true, true, true, true, true, true, true, true, true, true, true, true, true, true, true, true, true, true, true, true, true, true, false, false, false, false] rfl rfl (one_of HT_.out (by kernel_rfl)) (by decide) (fun K hK => ?_)
                         refine goes_ Tryd.func32 (by kernel_rfl) rfl #[.string t380, .slice Ao10 t381.length co10] (by rfl) rfl rfl pA ?_
                         with_reducible refine (spec_CutLines.calls kj7 t380 _ _ t381 t445 t446 t449 _ ?side1 ?side2 A56.out).mono ?_
                         (case side1 => exact pC (rr HO_4.out).2.2)
                         (case side2 => exact (rr HO_4.out).2.1)
                         rintro e w84 ⟨v447, rfl, ho0, hb⟩
                         refine ⟨_, rfl, ?_⟩
                         have n_ := t12 (Kd.R_below (pR HO_4) hb) (rE (pR HO_390001) (rB ho0) hb) (Kd.R_below (pR HO_399001) hb) (rE (pR HO422) (rB ho0) hb) (rE (pR HO432) (rB ho0) hb) (rE (pR HO443) (rB ho0) hb) (rL (rW (rW (rW (rW ho0 (Kd.R_lt (pR HO_390001))) (Kd.R_lt (pR HO422))) (Kd.R_lt (pR HO432))) (Kd.R_lt (pR HO443))) (bs_ pB)) (blk_below (g := gb389) (o := .cells #[.int .i64 t384, .slice Ao14 t385.length co14, .string t388] 53 (0, 0)) (pK BK389) hb) (blk_below (g := gb398) (o := .cells #[.int .i64 t394, .slice Ao21 t395.length co21] 58 (0, 0)) (pK BK398) hb) (blk_below (g := gb424) (o := .cells #[.int .i64 t419, .slice Ao66 t420.length co66, .string t423] 53 (0, 0)) (pK BK424) hb) (blk_below (g := gb434) (o := .cells #[.int .i64 t429, .slice Ao74 t430.length co74, .string t433] 53 (0, 0)) (pK BK434) hb) (bz_ pB hb)
                         clear HO_4 HO_390001 HO_399001 HO422 HO432 HO443 BK389 BK398 BK424 BK434 HB; obtain ⟨HO_4, HO_390001, HO_399001, HO422, HO432, HO443, HO448, BK389, BK398, BK424, BK434, HB⟩ := n_; (try clear hb); (try clear hb2); (try clear hk); (try clear hi); (try clear ho0)
                         obtain ⟨Ao85, co85, eo85⟩ := rS HO448.out
                         (first | subst eo85 | (injection eo85 with f1_ f2_ f3_; have f4_ := f1_.symm; have f5_ := f3_.symm; clear f1_ f2_ f3_; subst f4_; subst f5_))
                         refine hK.out _ _ ⟨(blk_cell BK424.out 0).trans rfl, (blk_cell BK424.out 1).trans rfl, (blk_cell BK424.out 2).trans rfl, (blk_cell BK434.out 0).trans rfl, (blk_cell BK434.out 1).trans rfl, (blk_cell BK434.out 2).trans rfl, (blk_cell BK389.out 0).trans rfl, (blk_cell BK389.out 1).trans rfl, (blk_cell BK389.out 2).trans rfl⟩ (fun hHeld => ?_)
                         clear hK K
                         refine norm_ (a' := ?_) ?_ ?_
                         rotate_left
                         · show Act.put _ (some 116) _ = _
                           simp only [Act.put, List.setIfInBounds_toArray, List.set_cons_zero, List.set_cons_succ, i64_w, i32_w]
                           rfl
                         refine pure_ (i := 33) (N := some 117) (v := ?_) (a' := ?_) #[true, true, true, true, true, true, true, true, true, true, true, true, true, true, true, true, true, true, true, true, true, true, true, true, true, true, true, true, true, true, true, true, true, true, false, false, false] rfl rfl (any_of HT_.out (by kernel_rfl)) (fun _ _ _ h => h) (Or.inl ⟨by rfl, ?_⟩) ?_ ?_
                         rotate_left
                         · intro w'
                           go_simp
                           with_reducible rfl
                         rotate_left
                         · simp only [Act.put, List.setIfInBounds_toArray, List.set_cons_zero, List.set_cons_succ, i64_w, i32_w]
                           rfl
                         refine one_ (i := 34) (N := some 118) #[true, true, true, true, true, true, true, true, true, true, true, true, true, true, true, true, true, true, true, true, true, true, true, true, true, true, true, true, true, true, true, true, true, true, true, false, false] rfl rfl (one_of HT_.out (by kernel_rfl)) (by decide) (fun K hK => ?_)
                         refine goes_ Tryd.func34 (by kernel_rfl) rfl #[.slice Ao14 t385.length co14, .slice Ao85 t446.length co85] (by rfl) rfl rfl pA ?_
                         with_reducible refine (laws_lwTexts.calls kj7 _ _ t385 _ _ t446 t450 _ ?side1 ?side2 ?side3 ?side4 A57.out).mono ?_
                         (case side1 => exact pC (rr HO_390001.out).2.2)
                         (case side2 => exact (rr HO_390001.out).2.1)
                         (case side3 => exact pC (rr HO448.out).2.2)
                         (case side4 => exact (rr HO448.out).2.1)
                         rintro e w' ⟨rfl, ⟨nd, rfl⟩⟩
                         refine ⟨_, rfl, ?_⟩
                         refine hK.out _ _ ⟨(blk_cell BK424.out 0).trans rfl, (blk_cell BK424.out 1).trans rfl, (blk_cell BK424.out 2).trans rfl, (blk_cell BK434.out 0).trans rfl, (blk_cell BK434.out 1).trans rfl, (blk_cell BK434.out 2).trans rfl, (blk_cell BK389.out 0).trans rfl, (blk_cell BK389.out 1).trans rfl, (blk_cell BK389.out 2).trans rfl⟩ (fun hHeld => ?_)
                         clear hK K
                         refine norm_ (a' := ?_) ?_ ?_
                         rotate_left
                         · show Act.put _ (some 118) _ = _
                           simp only [Act.put, List.setIfInBounds_toArray, List.set_cons_zero, List.set_cons_succ, i64_w, i32_w]
                           rfl
                         refine pure_ (i := 35) (N := some 119) (v := ?_) (a' := ?_) #[true, true, true, true, true, true, true, true, true, true, true, true, true, true, true, true, true, true, true, true, true, true, true, true, true, true, true, true, true, true, true, true, true, true, true, true, false] rfl rfl (any_of HT_.out (by kernel_rfl)) (fun _ _ _ h => h) (Or.inl ⟨by rfl, ?_⟩) ?_ ?_
                         rotate_left
                         · intro w'
                           go_simp
                           with_reducible rfl
                         rotate_left
                         · simp only [Act.put, List.setIfInBounds_toArray, List.set_cons_zero, List.set_cons_succ, i64_w, i32_w]
                           rfl
                         refine pure_ (i := 36) (N := some 2) (v := ?_) (a' := ?_) #[true, true, true, true, true, true, true, true, true, true, true, true, true, true, true, true, true, true, true, true, true, true, true, true, true, true, true, true, true, true, true, true, true, true, true, true, true] rfl rfl (any_of HT_.out (by kernel_rfl)) (fun _ _ _ h => h) (Or.inl ⟨by rfl, ?_⟩) ?_ ?_
                         rotate_left
                         · intro w'
                           go_simp
                           with_reducible rfl
                         rotate_left
                         · simp only [Act.put, List.setIfInBounds_toArray, List.set_cons_zero, List.set_cons_succ, i64_w, i32_w]
                           rfl
                         refine done_ (done_of HT_.out (by kernel_rfl)) ?_
                         try go_wp2
                         go_ret
                         exact ⟨pE, pB⟩
                       · replace c55 := Bool.eq_false_iff.mpr c55
                         subst c55
                         have H1 : (none) = some r := by rw [if_neg (show ¬ (false = true) by decide)] at H; exact H
                         clear H; have H := H1; clear H1
                         exact absurd H (by simp)
                     · rw [if_neg c53] at H
                       exact absurd H (by simp)
                   · rw [if_neg c52] at H
                     exact absurd H (by simp)
                 · rw [if_neg c51] at H
                   have c51b0 : (t433.toList == t388.toList) = false := beq_eq_false_iff_ne.mpr c51
                   have c51b1 : (t433.toList != t388.toList) = true := bne_iff_ne.mpr c51
                   exact absurd H (by simp)
               · rw [if_neg c50] at H
                 have c50b0 : (t429 == 0) = false := beq_eq_false_iff_ne.mpr c50
                 have c50b1 : (t429 != 0) = true := bne_iff_ne.mpr c50
                 exact absurd H (by simp)
             · rw [if_neg c49] at H
               have c49b0 : (t419 == 0) = false := beq_eq_false_iff_ne.mpr c49
               have c49b1 : (t419 != 0) = true := bne_iff_ne.mpr c49
               exact absurd H (by simp)
           · rw [if_neg c44] at H
             exact absurd H (by simp)
         · rw [if_neg c43] at H
           exact absurd H (by simp)
       · rw [if_neg c41] at H
         have c41b0 : (t384 == 0) = false := beq_eq_false_iff_ne.mpr c41
         have c41b1 : (t384 != 0) = true := bne_iff_ne.mpr c41
         obtain ⟨⟨t409, t410, t413⟩, A860, H⟩ := bO H
         replace H : (some (t409 == t384)) = some r := H
         have A86 := am A860; clear A860
         obtain rfl := sj H
         have hnb87 := NB389_398.out
         have hnc87 := NB398_389.out
         obtain ⟨hcz88_0, hcz88_1, hcz88_2, hfz88_0, hfz88_1, hfz88_2⟩ := bx3 BK389
         try go_wp2
         have n_ := t6 (Kd.R_drew HO_4.out) (Kd.R_drew HO_390001.out) (Kd.R_drew HO_399001.out) (blk_drew BK389.out) (blk_drew BK398.out) (below_drew1 HB.out)
         clear HO_4 HO_390001 HO_399001 BK389 BK398 HB; obtain ⟨HO_4, HO_390001, HO_399001, BK389, BK398, HB⟩ := n_
         refine start_ (n := 8) (S := fun w' => w'.cell? ⟨gb389, 0, none⟩ = some (.int .i64 t384) ∧ w'.cell? ⟨gb389, 1, none⟩ = some (.slice Ao14 t385.length co14) ∧ w'.cell? ⟨gb389, 2, none⟩ = some (.string t388)) (ds := []) #[false, false, false, false, false, false, false, false] (by kernel_rfl) rfl rfl ⟨(blk_cell BK389.out 0).trans rfl, (blk_cell BK389.out 1).trans rfl, (blk_cell BK389.out 2).trans rfl⟩ (fun hHeld => ?_); refine with_tabW laws_FnCuts.tab10 laws_FnCuts.bits10 (fun HT_ HW_ => ?_)
         generalize wc.drew = w89 at HO_4 HO_390001 HO_399001 BK389 BK398 HB hHeld ⊢
         refine pure_ (i := 0) (N := some 61) (v := ?_) (a' := ?_) #[true, false, false, false, false, false, false, false] rfl rfl (any_of HT_.out (by kernel_rfl)) (fun _ _ _ h => h) (Or.inl ⟨by rfl, ?_⟩) ?_ ?_
         rotate_left
         · intro w'
           go_simp
           with_reducible rfl
         rotate_left
         · simp only [Act.put, List.setIfInBounds_toArray, List.set_cons_zero, List.set_cons_succ, i64_w, i32_w]
           rfl
         refine pure_ (i := 1) (N := some 62) (v := ?_) (a' := ?_) #[true, true, false, false, false, false, false, false] rfl rfl (any_of HT_.out (by kernel_rfl)) (fun _ _ _ h => h) (Or.inl ⟨by rfl, ?_⟩) ?_ ?_
         rotate_left
         · intro w'
           go_simp
           with_reducible rfl
         rotate_left
         · simp only [Act.put, List.setIfInBounds_toArray, List.set_cons_zero, List.set_cons_succ, i64_w, i32_w]
           rfl
         refine pure_ (i := 4) (N := some 65) (v := ?_) (a' := ?_) #[true, true, false, false, true, false, false, false] rfl rfl (any_of HT_.out (by kernel_rfl)) (fun _ _ _ h => h) (Or.inl ⟨by rfl, ?_⟩) ?_ ?_
         rotate_left
         · intro w'
           go_simp
           with_reducible rfl
         rotate_left
         · simp only [Act.put, List.setIfInBounds_toArray, List.set_cons_zero, List.set_cons_succ, i64_w, i32_w]
           rfl
         refine take_ (i := 5) (N := some 66) (v := ?_) (a' := ?_) #[true, true, false, false, true, true, false, false] rfl rfl (take_ofW HT_.out HW_.out (by kernel_rfl)) (fun _ _ _ h => h) (Or.inl ⟨by rfl, ?_⟩) hHeld ?_ ?_
         rotate_left
         · rintro w' ⟨s0, s1, s2⟩
           go_simp
           with_reducible rfl
         rotate_left
         · simp only [Act.put, List.setIfInBounds_toArray, List.set_cons_zero, List.set_cons_succ, i64_w, i32_w]
           rfl
         refine one_ (i := 2) (N := some 63) #[true, true, true, false, true, true, false, false] rfl rfl (one_of HT_.out (by kernel_rfl)) (by decide) (fun K hK => ?_)
         refine goes_ Tryd.func32 (by kernel_rfl) rfl #[.string t380, .slice Ao10 t381.length co10] (by rfl) rfl rfl pA ?_
         with_reducible refine (spec_CutLines.calls kj7 t380 _ _ t381 t409 t410 t413 _ ?side1 ?side2 A86.out).mono ?_
         (case side1 => exact pC (rr HO_4.out).2.2)
         (case side2 => exact (rr HO_4.out).2.1)
         rintro e w90 ⟨v411, rfl, ho0, hb⟩
         refine ⟨_, rfl, ?_⟩
         have n_ := t7 (Kd.R_below (pR HO_4) hb) (rE (pR HO_390001) (rB ho0) hb) (Kd.R_below (pR HO_399001) hb) (rL (rW ho0 (Kd.R_lt (pR HO_390001))) (bs_ pB)) (blk_below (g := gb389) (o := .cells #[.int .i64 t384, .slice Ao14 t385.length co14, .string t388] 53 (0, 0)) (pK BK389) hb) (blk_below (g := gb398) (o := .cells #[.int .i64 t394, .slice Ao21 t395.length co21] 58 (0, 0)) (pK BK398) hb) (bz_ pB hb)
         clear HO_4 HO_390001 HO_399001 BK389 BK398 HB; obtain ⟨HO_4, HO_390001, HO_399001, HO412, BK389, BK398, HB⟩ := n_; (try clear hb); (try clear hb2); (try clear hk); (try clear hi); (try clear ho0)
         refine hK.out _ _ ⟨(blk_cell BK389.out 0).trans rfl, (blk_cell BK389.out 1).trans rfl, (blk_cell BK389.out 2).trans rfl⟩ (fun hHeld => ?_)
         clear hK K
         refine norm_ (a' := ?_) ?_ ?_
         rotate_left
         · show Act.put _ (some 63) _ = _
           simp only [Act.put, List.setIfInBounds_toArray, List.set_cons_zero, List.set_cons_succ, i64_w, i32_w]
           rfl
         refine pure_ (i := 3) (N := some 64) (v := ?_) (a' := ?_) #[true, true, true, true, true, true, false, false] rfl rfl (any_of HT_.out (by kernel_rfl)) (fun _ _ _ h => h) (Or.inl ⟨by rfl, ?_⟩) ?_ ?_
         rotate_left
         · intro w'
           go_simp
           with_reducible rfl
         rotate_left
         · simp only [Act.put, List.setIfInBounds_toArray, List.set_cons_zero, List.set_cons_succ, i64_w, i32_w]
           rfl
         refine pure_ (i := 6) (N := some 67) (v := ?_) (a' := ?_) #[true, true, true, true, true, true, true, false] rfl rfl (any_of HT_.out (by kernel_rfl)) (fun _ _ _ h => h) (Or.inl ⟨by rfl, ?_⟩) ?_ ?_
         rotate_left
         · intro w'
           go_simp
           with_reducible rfl
         rotate_left
         · simp only [Act.put, List.setIfInBounds_toArray, List.set_cons_zero, List.set_cons_succ, i64_w, i32_w]
           rfl
         refine pure_ (i := 7) (N := some 2) (v := ?_) (a' := ?_) #[true, true, true, true, true, true, true, true] rfl rfl (any_of HT_.out (by kernel_rfl)) (fun _ _ _ h => h) (Or.inl ⟨by rfl, ?_⟩) ?_ ?_
         rotate_left
         · intro w'
           go_simp
           with_reducible rfl
         rotate_left
         · simp only [Act.put, List.setIfInBounds_toArray, List.set_cons_zero, List.set_cons_succ, i64_w, i32_w]
           rfl
         refine done_ (done_of HT_.out (by kernel_rfl)) ?_
         try go_wp2
         go_ret
         exact ⟨pE, pB⟩
/-- THE ONE PURE STATEMENT of laws_FnCuts: yours. -/
def laws_FnCuts.Pure : Prop := ∀ (l0 : List Int), l0.length ≤ maxLen → l0.length * 1 ≤ 140737488351232 → (∀ x ∈ l0, (Lit.int .u8 x).wf = true) → ∃ k, laws_FnCuts.f k l0 = some true
theorem laws_FnCuts.walk (P : laws_FnCuts.Pure) (a0 : Option Addr) (len0 cap0 : Nat) (z0 : List Int) (w : World) (w0 : (a0 = none ∧ len0 = 0 ∧ cap0 = 0 ∧ z0 = []) ∨ ∃ x, a0 = some x ∧ len0 ≤ cap0 ∧ cap0 ≤ maxLen ∧ z0.length = cap0 ∧ (∀ i, i < z0.length → w.cell? (x.add i) = some (.int .u8 (z0.getD i 0))) ∧ ∀ n ∈ z0, (Lit.int .u8 n).wf = true) (y0 : len0 * 1 ≤ 140737488351232) (hV : ∃ m : Int, w.cell? ⟨3, 0, none⟩ = some (.int .i64 m)) :
 Calls Tryd.prog 7 #[.slice a0 len0 cap0] w fun e w' => e = .returned (.bool true) ∧ Below w.heap.size w w' := by
 obtain ⟨l0, rfl, hr0, hm0, hw0, hc0⟩ := ReadsInt.ofRowC w0
 obtain ⟨k, h⟩ := P l0 hm0 y0 hw0
 refine (laws_FnCuts.calls k _ _ l0 true w (Kd.C_of_reads (d := (0 : Int)) (h1 := fun _ => rfl) hr0) hc0 h hV).mono ?_
 rintro e w' ⟨rfl, hd⟩
 exact ⟨rfl, hd⟩
end Go.Proofs.YthjlbpgiaehjnaaDoor.QFnCuts
