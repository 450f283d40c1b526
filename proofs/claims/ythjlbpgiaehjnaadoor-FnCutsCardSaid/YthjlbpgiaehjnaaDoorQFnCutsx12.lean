-- written by this session's program (wip/tools/myprint.py)
import Derived.Test.YthjlbpgiaehjnaaDoorQFnCutsx0
import Derived.Test.YthjlbpgiaehjnaaDoorQFnCutsx11
-- squeezed
namespace Go.Proofs.YthjlbpgiaehjnaaDoor.QFnCuts
open Go.RowKit Go.Proofs.YthjlbpgiaehjnaaDoorW.PrintWords Go.Proofs.YthjlbpgiaehjnaaDoorW.PrintLast Go.Proofs.YthjlbpgiaehjnaaDoorW.PrintMore
attribute [local go_sem] max2_int min2_int max_two min_two max_three min_three max_four min_four   -- for this text's walks alone
set_option linter.unusedVariables false
set_option linter.unusedSimpArgs false
set_option maxHeartbeats 8000000
set_option maxRecDepth 100000
def impl_SameVals.f (k : Nat) (l0 : List (S81)) (l1 : List (S81)) : Option (Bool) := (impl_Val_62.f k l0 l1).bind fun t350 => (some t350)
theorem impl_SameVals.mono : ∀ a0 a1 k, LeO (impl_SameVals.f k a0 a1) (impl_SameVals.f (k + 1) a0 a1) := by
 intro a0 a1 k
 unfold impl_SameVals.f
 repeat' with_reducible first | exact impl_Val_62.mono _ _ _ | exact LeO.refl _ | exact LeO.none _ | refine LeO.ite ?_ ?_ | refine LeO.bind ?_ (fun _ => ?_)
theorem impl_SameVals.calls (k : Nat) (A0 : Option Addr) (c0 : Nat) (l0 : List (S81)) (A1 : Option Addr) (c1 : Nat) (l1 : List (S81)) (r : Bool) (w : World) (hr0 : Kd.C k81 w A0 l0.length l0) (hc0 : l0.length ≤ c0) (hr1 : Kd.C k81 w A1 l1.length l1) (hc1 : l1.length ≤ c1) (h : impl_SameVals.f k l0 l1 = some r) :
 Calls Tryd.prog 30 #[.slice A0 l0.length c0, .slice A1 l1.length c1] w fun e w' => e = .returned (.bool r) ∧ Drawn0 w w' := by
 have HR0 := am hr0; have HC0 := am hc0; clear hr0 hc0; have HR1 := am hr1; have HC1 := am hc1; clear hr1 hc1
 have H : ((impl_Val_62.f k l0 l1).bind fun t350 => (some t350)) = some r := h
 clear h
 obtain ⟨t350, A30, H⟩ := bO H
 replace H : (some t350) = some r := H
 have A3 := am A30; clear A30
 obtain rfl := sj H
 go_enter Tryd.func30, Tryd.ntmps30
 go_wp2_with (first | ((with_reducible refine gC (f := 62) rfl ?_); refine goesL_ (some 7) rfl rfl Tryd.func62 (by kernel_rfl) rfl #[.slice A0 l0.length c0, .slice A1 l1.length c1] rfl pA ?_; (with_reducible refine (impl_Val_62.calls k _ _ l0 _ _ l1 t350 _ ?side1 ?side2 ?side3 ?side4 A3.out).mono ?_); (case side1 => exact pC HR0.out); (case side2 => exact HC0.out); (case side3 => exact pC HR1.out); (case side4 => exact HC1.out); rintro e w' ⟨rfl, ⟨nd, rfl⟩⟩; refine ⟨_, rfl, ?_⟩))
 go_ret
 exact ⟨by first | rfl | (simp; done) | (simp [*]; done), pW⟩
def spec_l8Cut.l0 : Nat → ByteArray → Int → List ByteArray → Int → Int → Option (List ByteArray)
 | 0, _, _, _, _, _ => none
 | k + 1, x0, x1, x5, x6, x7 => if x7 ≤ (x0.size : Int) then (if x7 = (x0.size : Int) then (if 0 ≤ x6 then (if x6 ≤ x7 then (if x5.length < 8796093022208 then (spec_l8Cut.l0 k x0 x1 (x5 ++ [x0.extract (x6 : Int).toNat (x7 : Int).toNat]) (wrap64 (x7 + 1)) (wrap64 (x7 + 1))) else (none)) else (none)) else (none)) else (if 0 ≤ x7 then (if x7 < (x0.size : Int) then (if (bt x0 x7) = x1 then (if 0 ≤ x6 then (if x6 ≤ x7 then (if x5.length < 8796093022208 then (spec_l8Cut.l0 k x0 x1 (x5 ++ [x0.extract (x6 : Int).toNat (x7 : Int).toNat]) (wrap64 (x7 + 1)) (wrap64 (x7 + 1))) else (none)) else (none)) else (none)) else (spec_l8Cut.l0 k x0 x1 x5 x6 (wrap64 (x7 + 1)))) else (none)) else (none))) else (some x5)
def spec_l8Cut.f (k : Nat) (a0 : ByteArray) (a1 : Int) : Option (List ByteArray) := spec_l8Cut.l0 k a0 a1 (([] : List ByteArray)) 0 0
theorem spec_l8Cut.mono_l : ∀ k, (∀ y0 y1 y2 y3 y4, LeO (spec_l8Cut.l0 k y0 y1 y2 y3 y4) (spec_l8Cut.l0 (k + 1) y0 y1 y2 y3 y4))
 | 0 => fun _ _ _ _ _ r h => by simp [spec_l8Cut.l0] at h
 | k + 1 => by
  have ih0 := spec_l8Cut.mono_l k
  · intro y0 y1 y2 y3 y4
    unfold spec_l8Cut.l0
    repeat' with_reducible first | exact ih0 _ _ _ _ _ | exact LeO.refl _ | exact LeO.none _ | refine LeO.ite ?_ ?_ | refine LeO.bind ?_ (fun _ => ?_)
theorem spec_l8Cut.mono : ∀ a0 a1 k, LeO (spec_l8Cut.f k a0 a1) (spec_l8Cut.f (k + 1) a0 a1) := by
 intro a0 a1 k
 have ih0 := spec_l8Cut.mono_l k
 unfold spec_l8Cut.f
 repeat' with_reducible first | exact ih0 _ _ _ _ _ | exact LeO.refl _ | exact LeO.none _ | refine LeO.ite ?_ ?_ | refine LeO.bind ?_ (fun _ => ?_)
theorem spec_l8Cut.calls (k : Nat) (a0 : ByteArray) (a1 : Int) (r : List ByteArray) (w : World) (h : spec_l8Cut.f k a0 a1 = some r) :
 Calls Tryd.prog 65 #[.string a0, .int .u8 a1] w fun e w' => ∃ v0_ : Value, e = .returned (v0_) ∧ Kd.R Kd.string 9 w' w.heap.size (fun _ => True) v0_ r ∧ Below w.heap.size w w' := by
 have HB := am (Below.refl w.heap.size w)
 have H : (spec_l8Cut.l0 k a0 a1 (([] : List ByteArray)) 0 0) = some r := h
 clear h
 obtain ⟨y351, hy351⟩ : ∃ y_ : List ByteArray, y_ = (([] : List ByteArray)) := ⟨_, rfl⟩
 replace H : (spec_l8Cut.l0 k a0 a1 y351 0 0) = some r := by first | (rw [hy351]; with_reducible exact H) | (have H2_ := (Option.bind_some _ _).symm.trans H; rw [hy351]; with_reducible exact H2_) | (have H2_ := (Option.bind_some _ _).symm.trans H; with_reducible exact H2_) | with_reducible exact H | (rw [hy351]; exact H) | exact H
 have Ny351 := am hy351; clear hy351
 have H' := am H
 clear H
 go_enter Tryd.func65, Tryd.ntmps65
 go_wp2_with (first | ((with_reducible refine gate_dst (N := 8) rfl ?_); refine Kd.R_lit Kd.string _ 9 ?hg (N := 8) ?hd (xs := ([] : List ByteArray)) (inner := []) (ok := fun _ => True) (okp := fun _ => True) ?hr ?hp (fun _ hk => hk) trivial (Below.refl _ _) (Nat.le_refl _) (by simp) ?_; (case hd => rfl); (case hg => rfl); (case hr => first | (go_simp; done) | (go_simp; rfl)); (case hp => exact (Reps.none _ _)); intro v352 w3 ho4 hb hg_ hnew_; clear hg_ hnew_; (first | rw [← Ny351.out] at ho4 | (simp only [Int.reduceToNat] at ho4; rw [← Ny351.out] at ho4)); have n_ := t2 (rL ho4 (bs_ pB)) (bz_ pB hb); clear HB; obtain ⟨HO353, HB⟩ := n_; clear hb ho4))
 go_loopg [5, 6, 7] k (fun kq v5 v6 v7 w' => ∃ (x5_1 : List ByteArray) (x6_1 : Int) (x7_1 : Int), v6 = .int .i64 x6_1 ∧ v7 = .int .i64 x7_1 ∧ Aside0 (spec_l8Cut.l0 kq a0 a1 x5_1 x6_1 x7_1 = some r) ∧ Aside0 (kq ≤ k) ∧ Aside0 (Kd.R Kd.string 9 w' w.heap.size (fun _ => True) v5 x5_1) ∧ Aside0 (Below w.heap.size w w'))
 case atStart => exact ⟨(y351), (0), (0), pF, pF, H', ⟨Nat.le_refl _⟩, ⟨(pR HO353)⟩, ⟨pB⟩⟩
 case round =>
  clear H'
  obtain ⟨x5_1, x6_1, x7_1, rfl, rfl, HA, HK1, HO_5, HB⟩ := hrel
  cases gk with
  | zero => exact absurd HA.out (by simp [spec_l8Cut.l0])
  | succ k1 =>
   have H := HA.out
   clear HA
   simp only [spec_l8Cut.l0] at H
   by_cases c5 : x7_1 ≤ (a0.size : Int)
   · rw [if_pos c5] at H
     have c5b0 : decide (x7_1 ≤ (a0.size : Int)) = true := dt c5
     clear c5
     by_cases c6 : x7_1 = (a0.size : Int)
     · rw [if_pos c6] at H
       have c6b0 : (x7_1 == (a0.size : Int)) = true := beq_iff_eq.mpr c6
       have c6b1 : (x7_1 != (a0.size : Int)) = false := bne_eq_false_iff_eq.mpr c6
       clear c6
       by_cases c7 : 0 ≤ x6_1
       · rw [if_pos c7] at H
         have c7b0 := eq_true c7
         have c7b1 : decide (0 ≤ x6_1) = true := dt c7
         clear c7
         by_cases c8 : x6_1 ≤ x7_1
         · rw [if_pos c8] at H
           have c8b0 := eq_true c8
           have c8b1 : decide (x6_1 ≤ x7_1) = true := dt c8
           clear c8
           have c9b0 := eq_true (pD : x7_1 ≤ (a0.size : Int))
           by_cases c10 : x5_1.length < 8796093022208
           · rw [if_pos c10] at H
             have LMc10 := am c10; clear c10
             obtain ⟨y354, hy354⟩ : ∃ y_ : List ByteArray, y_ = (x5_1 ++ [a0.extract (x6_1 : Int).toNat (x7_1 : Int).toNat]) := ⟨_, rfl⟩
             replace H : (spec_l8Cut.l0 k1 a0 a1 y354 (wrap64 (x7_1 + 1)) (wrap64 (x7_1 + 1))) = some r := by first | (rw [hy354]; with_reducible exact H) | (have H2_ := (Option.bind_some _ _).symm.trans H; rw [hy354]; with_reducible exact H2_) | (have H2_ := (Option.bind_some _ _).symm.trans H; with_reducible exact H2_) | with_reducible exact H | (rw [hy354]; exact H) | exact H
             have Ny354 := am hy354; clear hy354
             have H' := am H
             clear H
             go_wp2_with (first | ((with_reducible refine gB (b := .append) (xs := #[.tmp 26, .tmp 31]) rfl ?_); at_builtin; refine Kd.R_append Kd.string (w0 := w) w.heap.size rfl (.tmp 26) (.tmp 31) 22 9 (.string ⟨#[]⟩) 16 rfl Tryd.underlying22 info9 rfl (by decide) (by omega) u5 x5_1 (a0.extract (x6_1 : Int).toNat (x7_1 : Int).toNat) [.string (a0.extract (x6_1 : Int).toNat (x7_1 : Int).toNat)] (fun _ => True) (fun _ => False) rfl rfl ?aP (fun _ hk => hk.elim) ?aF ?aO ?aB ?aS ?aL ?_; (case aP => exact rfl); (case aB => exact pB); (case aF => exact (fun _ _ => trivial)); (case aO => exact (pR HO_5)); (case aS => exact (bs_ pB)); (case aL => have := LMc10.out; omega); intro v355 w11 ho hb hg hat; rw [← Ny354.out] at ho; have n_ := t2 (hb) (ho); clear HB HO_5; obtain ⟨HB, HO356⟩ := n_; clear ho hb hg hat))
             go_roundg k1
             case measure => have := HK1.out; omega
             case rel => exact ⟨(y354), (wrap64 (x7_1 + 1)), (wrap64 (x7_1 + 1)), pF, pF, H', ⟨by have := HK1.out; omega⟩, ⟨(pR HO356)⟩, ⟨pB⟩⟩
           · rw [if_neg c10] at H
             exact absurd H (by simp)
         · rw [if_neg c8] at H
           exact absurd H (by simp)
       · rw [if_neg c7] at H
         exact absurd H (by simp)
     · rw [if_neg c6] at H
       have c6b0 : (x7_1 == (a0.size : Int)) = false := beq_eq_false_iff_ne.mpr c6
       have c6b1 : (x7_1 != (a0.size : Int)) = true := bne_iff_ne.mpr c6
       by_cases c12 : 0 ≤ x7_1
       · rw [if_pos c12] at H
         have c12b0 : decide (0 ≤ x7_1) = true := dt c12
         clear c12
         by_cases c13 : x7_1 < (a0.size : Int)
         · rw [if_pos c13] at H
           have c13b0 : decide (x7_1 < (a0.size : Int)) = true := dt c13
           clear c13
           by_cases c15 : (bt a0 x7_1) = a1
           · rw [if_pos c15] at H
             have c15b0 : ((bt a0 x7_1) == a1) = true := beq_iff_eq.mpr c15
             have c15b1 : ((bt a0 x7_1) != a1) = false := bne_eq_false_iff_eq.mpr c15
             clear c15
             by_cases c16 : 0 ≤ x6_1
             · rw [if_pos c16] at H
               have c16b0 := eq_true c16
               have c16b1 : decide (0 ≤ x6_1) = true := dt c16
               clear c16
               by_cases c17 : x6_1 ≤ x7_1
               · rw [if_pos c17] at H
                 have c17b0 := eq_true c17
                 have c17b1 : decide (x6_1 ≤ x7_1) = true := dt c17
                 clear c17
                 have c18b0 := eq_true (pD : x7_1 ≤ (a0.size : Int))
                 by_cases c19 : x5_1.length < 8796093022208
                 · rw [if_pos c19] at H
                   have LMc19 := am c19; clear c19
                   obtain ⟨y357, hy357⟩ : ∃ y_ : List ByteArray, y_ = (x5_1 ++ [a0.extract (x6_1 : Int).toNat (x7_1 : Int).toNat]) := ⟨_, rfl⟩
                   replace H : (spec_l8Cut.l0 k1 a0 a1 y357 (wrap64 (x7_1 + 1)) (wrap64 (x7_1 + 1))) = some r := by first | (rw [hy357]; with_reducible exact H) | (have H2_ := (Option.bind_some _ _).symm.trans H; rw [hy357]; with_reducible exact H2_) | (have H2_ := (Option.bind_some _ _).symm.trans H; with_reducible exact H2_) | with_reducible exact H | (rw [hy357]; exact H) | exact H
                   have Ny357 := am hy357; clear hy357
                   have H' := am H
                   clear H
                   have p14 : 0 ≤ (x7_1 : Int) := pD
                   have q14 : x7_1 < (a0.size : Int) := pD
                   have hx14 := bt_at a0 x7_1
                   replace p14 := eq_true p14; replace q14 := eq_true q14
                   go_wp2_with (first | ((with_reducible refine gB (b := .append) (xs := #[.tmp 26, .tmp 31]) rfl ?_); at_builtin; refine Kd.R_append Kd.string (w0 := w) w.heap.size rfl (.tmp 26) (.tmp 31) 22 9 (.string ⟨#[]⟩) 16 rfl Tryd.underlying22 info9 rfl (by decide) (by omega) u5 x5_1 (a0.extract (x6_1 : Int).toNat (x7_1 : Int).toNat) [.string (a0.extract (x6_1 : Int).toNat (x7_1 : Int).toNat)] (fun _ => True) (fun _ => False) rfl rfl ?aP (fun _ hk => hk.elim) ?aF ?aO ?aB ?aS ?aL ?_; (case aP => exact rfl); (case aB => exact pB); (case aF => exact (fun _ _ => trivial)); (case aO => exact (pR HO_5)); (case aS => exact (bs_ pB)); (case aL => have := LMc19.out; omega); intro v358 w20 ho hb hg hat; rw [← Ny357.out] at ho; have n_ := t2 (hb) (ho); clear HB HO_5; obtain ⟨HB, HO359⟩ := n_; clear ho hb hg hat))
                   go_roundg k1
                   case measure => have := HK1.out; omega
                   case rel => exact ⟨(y357), (wrap64 (x7_1 + 1)), (wrap64 (x7_1 + 1)), pF, pF, H', ⟨by have := HK1.out; omega⟩, ⟨(pR HO359)⟩, ⟨pB⟩⟩
                 · rw [if_neg c19] at H
                   exact absurd H (by simp)
               · rw [if_neg c17] at H
                 exact absurd H (by simp)
             · rw [if_neg c16] at H
               exact absurd H (by simp)
           · rw [if_neg c15] at H
             have c15b0 : ((bt a0 x7_1) == a1) = false := beq_eq_false_iff_ne.mpr c15
             have c15b1 : ((bt a0 x7_1) != a1) = true := bne_iff_ne.mpr c15
             have H' := am H
             clear H
             have p14 : 0 ≤ (x7_1 : Int) := pD
             have q14 : x7_1 < (a0.size : Int) := pD
             have hx14 := bt_at a0 x7_1
             replace p14 := eq_true p14; replace q14 := eq_true q14
             go_wp2
             go_roundg k1
             case measure => have := HK1.out; omega
             case rel => exact ⟨(x5_1), (x6_1), (wrap64 (x7_1 + 1)), pF, pF, H', ⟨by have := HK1.out; omega⟩, ⟨(pR HO_5)⟩, ⟨pB⟩⟩
         · rw [if_neg c13] at H
           exact absurd H (by simp)
       · rw [if_neg c12] at H
         exact absurd H (by simp)
   · rw [if_neg c5] at H
     have c5b0 : decide (x7_1 ≤ (a0.size : Int)) = false := decide_eq_false c5
     clear c5
     obtain rfl := sj H
     go_wp2
     go_ret
     exact ⟨_, pE, (pR HO_5), pB⟩
def spec_l1Min.f (a0 : Int) (a1 : Int) : Option (Int) := if a0 < a1 then (some a0) else (some a1)
theorem spec_l1Min.calls (a0 : Int) (a1 : Int) (r : Int) (w : World) (h : spec_l1Min.f a0 a1 = some r) :
 Calls Tryd.prog 66 #[.int .i64 a0, .int .i64 a1] w fun e w' => e = .returned (.int .i64 r) ∧ Drawn0 w w' := by
 have H : (if a0 < a1 then (some a0) else (some a1)) = some r := h
 clear h
 by_cases c3 : a0 < a1
 · rw [if_pos c3] at H
   have c3b0 : decide (a0 < a1) = true := dt c3
   clear c3
   obtain rfl := sj H
   go_enter Tryd.func66, Tryd.ntmps66
   go_wp2
   go_ret
   exact ⟨by first | rfl | (simp; done) | (simp [*]; done), pW⟩
 · rw [if_neg c3] at H
   have c3b0 : decide (a0 < a1) = false := decide_eq_false c3
   clear c3
   obtain rfl := sj H
   go_enter Tryd.func66, Tryd.ntmps66
   go_wp2
   go_ret
   exact ⟨by first | rfl | (simp; done) | (simp [*]; done), pW⟩
mutual
def spec_CutLines.j0 : Nat → ByteArray → List Int → Bool → Option (Int × List ByteArray × ByteArray)
 | 0, _, _, _ => none
 | k + 1, x0, x1, x17 => if x17 = true then (some (2, ([] : List ByteArray), (⟨#[]⟩ : ByteArray))) else (if x0.size + (strOfNums x1).size ≤ 9223372036854775807 then ((spec_l8Cut.f k (x0 ++ (strOfNums x1)) 10).bind fun t361 => (if 0 ≤ (wrap64 ((t361.length : Int) - 1)) then (if (wrap64 ((t361.length : Int) - 1)) < (t361.length : Int) then ((spec_l1Min.f ((rdOf ByteArray.empty t361 (wrap64 ((t361.length : Int) - 1))).size : Int) 161).bind fun t366 => (if 0 ≤ t366 then (if t366 ≤ ((rdOf ByteArray.empty t361 (wrap64 ((t361.length : Int) - 1))).size : Int) then (spec_CutLines.l0 k t361 (wrap64 ((t361.length : Int) - 1)) 0 0 ([] : List ByteArray) ((rdOf ByteArray.empty t361 (wrap64 ((t361.length : Int) - 1))).extract 0 (t366 : Int).toNat)) else (none)) else (none))) else (none)) else (none))) else (none))
def spec_CutLines.l0 : Nat → List ByteArray → Int → Int → Int → List ByteArray → ByteArray → Option (Int × List ByteArray × ByteArray)
 | 0, _, _, _, _, _, _ => none
 | k + 1, x5, x6, x8, x368000, x368001, x368002 => if x8 < x6 then (if 0 ≤ x8 then (if x8 < (x5.length : Int) then (if ((rdOf ByteArray.empty x5 x8).size : Int) > 160 then (if x368001.length < 8796093022208 then (spec_CutLines.l0 k x5 x6 (wrap64 (x8 + 1)) x368000 (x368001 ++ [(⟨#[]⟩ : ByteArray)]) x368002) else (none)) else (if x368001.length < 8796093022208 then (spec_CutLines.l0 k x5 x6 (wrap64 (x8 + 1)) x368000 (x368001 ++ [rdOf ByteArray.empty x5 x8]) x368002) else (none))) else (none)) else (none)) else (some (x368000, x368001, x368002))
end
def spec_CutLines.f (k : Nat) (a0 : ByteArray) (l1 : List Int) : Option (Int × List ByteArray × ByteArray) := if (a0.size : Int) > 161 then (spec_CutLines.j0 k a0 l1 true) else (spec_CutLines.j0 k a0 l1 (decide ((l1.length : Int) > 1000)))
theorem spec_CutLines.mono_l : ∀ k, (∀ y0 y1 y2, LeO (spec_CutLines.j0 k y0 y1 y2) (spec_CutLines.j0 (k + 1) y0 y1 y2)) ∧ (∀ y0 y1 y2 y3 y4 y5, LeO (spec_CutLines.l0 k y0 y1 y2 y3 y4 y5) (spec_CutLines.l0 (k + 1) y0 y1 y2 y3 y4 y5))
 | 0 => ⟨fun _ _ _ r h => by simp [spec_CutLines.j0] at h, fun _ _ _ _ _ _ r h => by simp [spec_CutLines.l0] at h⟩
 | k + 1 => by
  obtain ⟨ih0, ih1⟩ := spec_CutLines.mono_l k
  refine ⟨?_, ?_⟩
  · intro y0 y1 y2
    unfold spec_CutLines.j0
    repeat' with_reducible first | exact ih0 _ _ _ | exact ih1 _ _ _ _ _ _ | exact spec_l8Cut.mono _ _ _ | exact LeO.refl _ | exact LeO.none _ | refine LeO.ite ?_ ?_ | refine LeO.bind ?_ (fun _ => ?_)
  · intro y0 y1 y2 y3 y4 y5
    unfold spec_CutLines.l0
    repeat' with_reducible first | exact ih0 _ _ _ | exact ih1 _ _ _ _ _ _ | exact spec_l8Cut.mono _ _ _ | exact LeO.refl _ | exact LeO.none _ | refine LeO.ite ?_ ?_ | refine LeO.bind ?_ (fun _ => ?_)
theorem spec_CutLines.mono : ∀ a0 a1 k, LeO (spec_CutLines.f k a0 a1) (spec_CutLines.f (k + 1) a0 a1) := by
 intro a0 a1 k
 obtain ⟨ih0, ih1⟩ := spec_CutLines.mono_l k
 unfold spec_CutLines.f
 repeat' with_reducible first | exact ih0 _ _ _ | exact ih1 _ _ _ _ _ _ | exact spec_l8Cut.mono _ _ _ | exact LeO.refl _ | exact LeO.none _ | refine LeO.ite ?_ ?_ | refine LeO.bind ?_ (fun _ => ?_)
def spec_CutLines.T5 : Bool × List (List Nat × List Nat) := (true, [([], []), ([], []), ([0, 1], [0, 1]), ([2], [2]), ([], []), ([], []), ([4, 5], [4, 5]), ([6], [6]), ([7], [7]), ([8], [8]), ([3, 9], [3, 9]), ([10], [10]), ([], []), ([12, 11, 9, 0, 1, 2, 3, 4, 5, 6, 7, 8, 9, 10, 11, 12], [11, 12])])
def spec_CutLines.B5 : List Nat := [0, 0, 3, 7, 0, 0, 48, 112, 240, 496, 1023, 2047, 0, 8191]
theorem spec_CutLines.tab5 : rtab .any (opsOf Tryd.f32 5) = spec_CutLines.T5 := by kernel_rfl
theorem spec_CutLines.bits5 : waitsOk spec_CutLines.T5.2 spec_CutLines.B5 = true := by kernel_rfl
theorem spec_CutLines.calls (k : Nat) (a0 : ByteArray) (A1 : Option Addr) (c1 : Nat) (l1 : List Int) (r1 : Int) (r2 : List ByteArray) (r3 : ByteArray) (w : World) (hr1 : Kd.C (Kd.int .u8) w A1 l1.length l1) (hc1 : l1.length ≤ c1) (h : spec_CutLines.f k a0 l1 = some (r1, r2, r3)) :
 Calls Tryd.prog 32 #[.string a0, .slice A1 l1.length c1] w fun e w' => ∃ v1_ : Value, e = .returned (.agg #[.int .i64 r1, v1_, .string r3]) ∧ Kd.R Kd.string 9 w' w.heap.size (fun _ => True) v1_ r2 ∧ Below w.heap.size w w' := by
 have hu53 := Tryd.underlying53
 have HR1 := am hr1; have HC1 := am hc1; clear hr1 hc1
 have HB := am (Below.refl w.heap.size w)
 have H : (if (a0.size : Int) > 161 then (spec_CutLines.j0 k a0 l1 true) else (spec_CutLines.j0 k a0 l1 (decide ((l1.length : Int) > 1000)))) = some (r1, r2, r3) := h
 clear h; have HC3 := am H; clear H
 go_enter Tryd.func32, Tryd.ntmps32
 go_upto_region 1 with (first | ((with_reducible refine gate_dst (N := 4) rfl ?_); (try (refine gate_guard (by rfl) ?_; dsimp only)); refine box_event ?hg (N := 4) ?hd (cs := #[.int .i64 0, .slice none 0 0, .string (⟨#[]⟩ : ByteArray)]) (t := 53) ?hr ?_; (case hd => rfl); (case hg => rfl); (case hr => first | (go_simp; done) | (go_simp; rfl)); intro gb360 hg w4 hbox hb; have n_ := t4 (bz_ pB hb) (hbox) ((by rw [hg]; exact (bs_ pB) : w.heap.size ≤ gb360)) ((by rw [hg]; exact (bs_ pB) : w.heap.size ≤ gb360)); clear HB; obtain ⟨HB, BK360, GW360, GE360⟩ := n_; clear hb hbox hg))
 (try simp only [Act.put, List.setIfInBounds_toArray, List.set_cons_zero, List.set_cons_succ])
 go_cut [17] (fun v17 wc => ∃ (kq : Nat) (x17_2 : Bool), v17 = .bool x17_2 ∧ Aside0 (spec_CutLines.j0 kq a0 l1 x17_2 = some (r1, r2, r3)) ∧ Aside0 (kq ≤ k) ∧ Aside0 (wc.heap[gb360]? = some (.cells #[.int .i64 0, (.slice none 0 0), .string (⟨#[]⟩ : ByteArray)] 53 (0, 0))) ∧ Aside0 (Below w.heap.size w wc))
 case first =>
  have H := HC3.out
  clear HC3
  by_cases c5 : (a0.size : Int) > 161
  · rw [if_pos c5] at H
    have c5b0 : decide (161 < (a0.size : Int)) = true := dt c5
    have c5b1 : decide (161 < a0.size) = true := dt (by omega)
    clear c5
    (first | rw [c5b0] | (simp only [i64_w, i32_w]; rw [c5b0]) | skip)
    have H' := am H
    clear H
    go_wp2
    go_meet
    case rel => exact ⟨_, (true), pF, H', ⟨by first | omega | exact Nat.le_refl _⟩, ⟨(pK BK360)⟩, ⟨pB⟩⟩
  · rw [if_neg c5] at H
    have c5b0 : decide (161 < (a0.size : Int)) = false := decide_eq_false c5
    have c5b1 : decide (161 < a0.size) = false := decide_eq_false (by omega)
    clear c5
    (first | rw [c5b0] | (simp only [i64_w, i32_w]; rw [c5b0]) | skip)
    have H' := am H
    clear H
    go_wp2
    go_meet
    case rel => exact ⟨_, (decide ((l1.length : Int) > 1000)), pF, H', ⟨by first | omega | exact Nat.le_refl _⟩, ⟨(pK BK360)⟩, ⟨pB⟩⟩
 case rest =>
  clear HC3; (try clear c1)
  obtain ⟨kq, x17_2, rfl, HA, HJ2, BK360, HB⟩ := hcut
  cases kq with
  | zero => exact absurd HA.out (by simp [spec_CutLines.j0])
  | succ kj2 =>
   have H := HA.out
   clear HA
   simp only [spec_CutLines.j0] at H
   by_cases c6 : x17_2 = true
   · subst c6
     have H1 : (some (2, ([] : List ByteArray), (⟨#[]⟩ : ByteArray))) = some (r1, r2, r3) := by rw [if_pos rfl] at H; exact H
     clear H; have H := H1; clear H1
     simp only [Option.some.injEq, Prod.mk.injEq] at H
     obtain ⟨rfl, rfl, rfl⟩ := H
     obtain ⟨hcz7_0, hcz7_1, hcz7_2, hfz7_0, hfz7_1, hfz7_2⟩ := bx3 BK360
     go_wp2
     refine bodyPost_ret (results_cell_row rfl _ _ gb360 53 #[.int .i64 2, .slice none 0 0, .string (⟨#[]⟩ : ByteArray)] (0, 0) _ rfl (by (with_reducible repeat (first | refine blk_drewN ?_ _ | refine blk_drew ?_ | refine blk_alloc ?_ _)); refine blk_put (cs := #[.int .i64 2, .slice none 0 0, .string (⟨#[]⟩ : ByteArray)]) ?_ 2 _ rfl; (with_reducible repeat (first | refine blk_drewN ?_ _ | refine blk_drew ?_ | refine blk_alloc ?_ _)); refine blk_put (cs := #[.int .i64 2, .slice none 0 0, .string (⟨#[]⟩ : ByteArray)]) ?_ 1 _ rfl; (with_reducible repeat (first | refine blk_drewN ?_ _ | refine blk_drew ?_ | refine blk_alloc ?_ _)); refine blk_put (cs := #[.int .i64 0, .slice none 0 0, .string (⟨#[]⟩ : ByteArray)]) ?_ 0 _ rfl; (with_reducible repeat (first | refine blk_drewN ?_ _ | refine blk_drew ?_ | refine blk_alloc ?_ _)); exact BK360.out) Tryd.underlying53 rfl (by kernel_rfl)) rfl ?_
     exact ⟨_, pE, by first | exact Kd.R_nil _ _ _ _ _ | exact Kd.N_nil _ _ _ _ _ | exact Kd.V_nil _ _ _ _ _ | exact Kd.Q_nil _ _ _ _ _ | exact Kd.S_nil _ _ _ _ _, pB⟩
   · replace c6 := Bool.eq_false_iff.mpr c6
     subst c6
     have H1 : (if a0.size + (strOfNums l1).size ≤ 9223372036854775807 then ((spec_l8Cut.f kj2 (a0 ++ (strOfNums l1)) 10).bind fun t361 => (if 0 ≤ (wrap64 ((t361.length : Int) - 1)) then (if (wrap64 ((t361.length : Int) - 1)) < (t361.length : Int) then ((spec_l1Min.f ((rdOf ByteArray.empty t361 (wrap64 ((t361.length : Int) - 1))).size : Int) 161).bind fun t366 => (if 0 ≤ t366 then (if t366 ≤ ((rdOf ByteArray.empty t361 (wrap64 ((t361.length : Int) - 1))).size : Int) then (spec_CutLines.l0 kj2 t361 (wrap64 ((t361.length : Int) - 1)) 0 0 ([] : List ByteArray) ((rdOf ByteArray.empty t361 (wrap64 ((t361.length : Int) - 1))).extract 0 (t366 : Int).toNat)) else (none)) else (none))) else (none)) else (none))) else (none)) = some (r1, r2, r3) := by rw [if_neg (show ¬ (false = true) by decide)] at H; exact H
     clear H; have H := H1; clear H1
     by_cases c8 : a0.size + (strOfNums l1).size ≤ 9223372036854775807
     · rw [if_pos c8] at H
       have c8b0 := eq_true c8
       have c8b1 : decide (a0.size + (strOfNums l1).size ≤ 9223372036854775807) = true := dt c8
       try have c8b2 : (9223372036854775807 < a0.size + (strOfNums l1).size) = False := eq_false (Nat.not_lt.2 c8)
       obtain ⟨t361, A90, H⟩ := bO H
       replace H : (if 0 ≤ (wrap64 ((t361.length : Int) - 1)) then (if (wrap64 ((t361.length : Int) - 1)) < (t361.length : Int) then ((spec_l1Min.f ((rdOf ByteArray.empty t361 (wrap64 ((t361.length : Int) - 1))).size : Int) 161).bind fun t366 => (if 0 ≤ t366 then (if t366 ≤ ((rdOf ByteArray.empty t361 (wrap64 ((t361.length : Int) - 1))).size : Int) then (spec_CutLines.l0 kj2 t361 (wrap64 ((t361.length : Int) - 1)) 0 0 ([] : List ByteArray) ((rdOf ByteArray.empty t361 (wrap64 ((t361.length : Int) - 1))).extract 0 (t366 : Int).toNat)) else (none)) else (none))) else (none)) else (none)) = some (r1, r2, r3) := H
       have A9 := am A90; clear A90
       obtain ⟨ji10, hji10⟩ : ∃ j_ : Int, (wrap64 ((t361.length : Int) - 1)) = j_ := ⟨_, rfl⟩
       replace H : (if 0 ≤ (ji10) then (if (ji10) < (t361.length : Int) then ((spec_l1Min.f ((rdOf ByteArray.empty t361 (ji10)).size : Int) 161).bind fun t366 => (if 0 ≤ t366 then (if t366 ≤ ((rdOf ByteArray.empty t361 (ji10)).size : Int) then (spec_CutLines.l0 kj2 t361 ji10 0 0 ([] : List ByteArray) ((rdOf ByteArray.empty t361 (ji10)).extract 0 (t366 : Int).toNat)) else (none)) else (none))) else (none)) else (none)) = some (r1, r2, r3) := by first | (rw [hji10] at H; exact H) | (simp only [hji10] at H ⊢; exact H)
       (try rw [hji10] at A9)
       have hji10w : (IntKind.i64.wrap ((t361.length : Int) - 1)) = ji10 := (i64_w _).trans hji10
       by_cases c11 : 0 ≤ (ji10)
       · rw [if_pos c11] at H
         have c11b0 : decide (0 ≤ (ji10)) = true := dt c11
         clear c11
         by_cases c12 : (ji10) < (t361.length : Int)
         · rw [if_pos c12] at H
           have c12b0 : decide ((ji10) < (t361.length : Int)) = true := dt c12
           clear c12
           obtain ⟨t366, A130, H⟩ := bO H
           replace H : (if 0 ≤ t366 then (if t366 ≤ ((rdOf ByteArray.empty t361 (ji10)).size : Int) then (spec_CutLines.l0 kj2 t361 ji10 0 0 ([] : List ByteArray) ((rdOf ByteArray.empty t361 (ji10)).extract 0 (t366 : Int).toNat)) else (none)) else (none)) = some (r1, r2, r3) := H
           have A13 := am A130; clear A130
           by_cases c14 : 0 ≤ t366
           · rw [if_pos c14] at H
             have c14b0 := eq_true c14
             have c14b1 : decide (0 ≤ t366) = true := dt c14
             clear c14
             by_cases c15 : t366 ≤ ((rdOf ByteArray.empty t361 (ji10)).size : Int)
             · rw [if_pos c15] at H
               have c15b0 := eq_true c15
               have c15b1 : decide (t366 ≤ ((rdOf ByteArray.empty t361 (ji10)).size : Int)) = true := dt c15
               clear c15
               have H' := am H
               clear H
               have hcv16 := Kd.C_string (P := Tryd.prog) (A := A1) (c := c1) Tryd.underlying48 Tryd.underlying5 Tryd.underlying9 (Kd.C_below HR1.out HB.out)
               try go_wp2_with (first | ((with_reducible refine gC (f := 65) rfl ?_); refine goesL_ (some 23) rfl rfl Tryd.func65 (by kernel_rfl) rfl #[.string (a0 ++ (strOfNums l1)), .int .u8 10] rfl pA ?_; (with_reducible refine (spec_l8Cut.calls kj2 (a0 ++ (strOfNums l1)) 10 t361 _ A9.out).mono ?_); rintro e w17 ⟨v362, rfl, ho0, hb⟩; refine ⟨_, rfl, ?_⟩; have n_ := t3 (rL ho0 (bs_ pB)) (blk_below (g := gb360) (o := .cells #[.int .i64 0, .slice none 0 0, .string (⟨#[]⟩ : ByteArray)] 53 (0, 0)) (pK BK360) hb) (bz_ pB hb); clear BK360 HB; obtain ⟨HO363, BK360, HB⟩ := n_; (try clear hb); (try clear ho0); obtain ⟨Ao18, co18, eo18⟩ := rS HO363.out; subst eo18))
               have n_ := t3 (Kd.R_drew HO363.out) (blk_drew BK360.out) (below_drew1 HB.out)
               clear HO363 BK360 HB; obtain ⟨HO363, BK360, HB⟩ := n_
               have p364 : 0 ≤ ((ji10) : Int) := pD
               have q364 : (ji10) < (t361.length : Int) := pD
               obtain ⟨ad364, e364, hx364_0⟩ := Kd.at_string (rr HO363.out).2.2 (ji10) p364 q364
               cases e364; replace p364 := eq_true p364; replace q364 := eq_true q364
               have p365 : 0 ≤ ((ji10) : Int) := pD
               have q365 : (ji10) < (t361.length : Int) := pD
               obtain ⟨ad365, e365, hx365_0⟩ := Kd.at_string (rr HO363.out).2.2 (ji10) p365 q365
               obtain rfl : ad364 = ad365 := (by injection e365)
               replace p365 := eq_true p365; replace q365 := eq_true q365
               refine start_ (n := 14) (S := fun w' => w'.cell? (ad364.add ((ji10)).toNat) = some (.string (rdOf ByteArray.empty t361 (ji10))) ∧ w'.cell? (ad364.add ((ji10)).toNat) = some (.string (rdOf ByteArray.empty t361 (ji10)))) (ds := []) #[false, false, false, false, false, false, false, false, false, false, false, false, false, false] (by kernel_rfl) rfl rfl ⟨hx364_0, hx365_0⟩ (fun hHeld => ?_); refine with_tabW spec_CutLines.tab5 spec_CutLines.bits5 (fun HT_ HW_ => ?_)
               generalize w17.drew = w19 at HO363 BK360 HB hx364_0 hx365_0 hHeld ⊢
               refine pure_ (i := 0) (N := some 27) (v := ?_) (a' := ?_) #[true, false, false, false, false, false, false, false, false, false, false, false, false, false] rfl rfl (any_of HT_.out (by kernel_rfl)) (fun _ _ _ h => h) (Or.inl ⟨by rfl, ?_⟩) ?_ ?_
               rotate_left
               · intro w'
                 go_simp
                 with_reducible rfl
               rotate_left
               · simp only [Act.put, List.setIfInBounds_toArray, List.set_cons_zero, List.set_cons_succ, i64_w, i32_w]
                 rfl
               refine pure_ (i := 1) (N := some 28) (v := ?_) (a' := ?_) #[true, true, false, false, false, false, false, false, false, false, false, false, false, false] rfl rfl (any_of HT_.out (by kernel_rfl)) (fun _ _ _ h => h) (Or.inl ⟨by rfl, ?_⟩) ?_ ?_
               rotate_left
               · intro w'
                 go_simp
                 with_reducible rfl
               rotate_left
               · simp only [Act.put, List.setIfInBounds_toArray, List.set_cons_zero, List.set_cons_succ, i64_w, i32_w]
                 rfl
               refine pure_ (i := 2) (N := some 29) (v := ?_) (a' := ?_) #[true, true, true, false, false, false, false, false, false, false, false, false, false, false] rfl rfl (any_of HT_.out (by kernel_rfl)) (fun _ _ _ h => h) (Or.inl ⟨by rfl, ?_⟩) ?_ ?_
               rotate_left
               · intro w'
                 go_simp
                 with_reducible rfl
               rotate_left
               · simp only [Act.put, List.setIfInBounds_toArray, List.set_cons_zero, List.set_cons_succ, i64_w, i32_w]
                 rfl
               refine pure_ (i := 4) (N := some 31) (v := ?_) (a' := ?_) #[true, true, true, false, true, false, false, false, false, false, false, false, false, false] rfl rfl (any_of HT_.out (by kernel_rfl)) (fun _ _ _ h => h) (Or.inl ⟨by rfl, ?_⟩) ?_ ?_
               rotate_left
               · intro w'
                 go_simp
                 with_reducible rfl
               rotate_left
               · simp only [Act.put, List.setIfInBounds_toArray, List.set_cons_zero, List.set_cons_succ, i64_w, i32_w]
                 rfl
               refine pure_ (i := 5) (N := some 32) (v := ?_) (a' := ?_) #[true, true, true, false, true, true, false, false, false, false, false, false, false, false] rfl rfl (any_of HT_.out (by kernel_rfl)) (fun _ _ _ h => h) (Or.inl ⟨by rfl, ?_⟩) ?_ ?_
               rotate_left
               · intro w'
                 go_simp
                 with_reducible rfl
               rotate_left
               · simp only [Act.put, List.setIfInBounds_toArray, List.set_cons_zero, List.set_cons_succ, i64_w, i32_w]
                 rfl
               refine pure_ (i := 6) (N := some 33) (v := ?_) (a' := ?_) #[true, true, true, false, true, true, true, false, false, false, false, false, false, false] rfl rfl (any_of HT_.out (by kernel_rfl)) (fun _ _ _ h => h) (Or.inl ⟨by rfl, ?_⟩) ?_ ?_
               rotate_left
               · intro w'
                 go_simp
                 with_reducible rfl
               rotate_left
               · simp only [Act.put, List.setIfInBounds_toArray, List.set_cons_zero, List.set_cons_succ, i64_w, i32_w]
                 rfl
               refine take_ (i := 3) (N := some 30) (v := ?_) (a' := ?_) #[true, true, true, true, true, true, true, false, false, false, false, false, false, false] rfl rfl (take_ofW HT_.out HW_.out (by kernel_rfl)) (fun _ _ _ h => h) (Or.inl ⟨by rfl, ?_⟩) hHeld ?_ ?_
               rotate_left
               · rintro w' ⟨s0, s1⟩
                 go_simp
                 with_reducible rfl
               rotate_left
               · simp only [Act.put, List.setIfInBounds_toArray, List.set_cons_zero, List.set_cons_succ, i64_w, i32_w]
                 rfl
               refine take_ (i := 7) (N := some 34) (v := ?_) (a' := ?_) #[true, true, true, true, true, true, true, true, false, false, false, false, false, false] rfl rfl (take_ofW HT_.out HW_.out (by kernel_rfl)) (fun _ _ _ h => h) (Or.inl ⟨by rfl, ?_⟩) hHeld ?_ ?_
               rotate_left
               · rintro w' ⟨s0, s1⟩
                 go_simp
                 with_reducible rfl
               rotate_left
               · simp only [Act.put, List.setIfInBounds_toArray, List.set_cons_zero, List.set_cons_succ, i64_w, i32_w]
                 rfl
               refine pure_ (i := 8) (N := some 35) (v := ?_) (a' := ?_) #[true, true, true, true, true, true, true, true, true, false, false, false, false, false] rfl rfl (any_of HT_.out (by kernel_rfl)) (fun _ _ _ h => h) (Or.inl ⟨by rfl, ?_⟩) ?_ ?_
               rotate_left
               · intro w'
                 go_simp
                 with_reducible rfl
               rotate_left
               · simp only [Act.put, List.setIfInBounds_toArray, List.set_cons_zero, List.set_cons_succ, i64_w, i32_w]
                 rfl
               refine join_ (σ := Nat) 1 #[true, true, true, true, true, true, true, true, true, true, true, true, true, false] (fun s_ => [(36, .int .i64 t366), (7, .pointer (some ⟨s_, 0, none⟩)), (37, .string ((rdOf ByteArray.empty t361 (ji10)).extract 0 (t366 : Int).toNat)), (38, .agg #[.int .i64 0, .slice none 0 0, .string ((rdOf ByteArray.empty t361 (ji10)).extract 0 (t366 : Int).toNat)])]) (fun s_ w' => (w'.cell? (ad364.add ((ji10)).toNat) = some (.string (rdOf ByteArray.empty t361 (ji10))) ∧ w'.cell? (ad364.add ((ji10)).toNat) = some (.string (rdOf ByteArray.empty t361 (ji10)))) ∧ (Kd.R Kd.string 9 w' w.heap.size (fun _ => True) (.slice (some ad364) t361.length co18) t361) ∧ (w'.heap[gb360]? = some (.cells #[.int .i64 0, .slice none 0 0, .string (⟨#[]⟩ : ByteArray)] 53 (0, 0))) ∧ (w'.heap[s_]? = some (.cells #[.int .i64 0, .slice none 0 0, .string (⟨#[]⟩ : ByteArray)] 53 (0, 0))) ∧ (w.heap.size ≤ s_) ∧ (w.heap.size ≤ s_) ∧ (gb360 ≠ s_) ∧ (s_ ≠ gb360) ∧ (Below w.heap.size w w')) ?_ ?_
               rotate_left
               · intro hCont
                 refine two_ (i := 9) (j := 12) (Ni := some 36) (Nj := some 7) #[true, true, true, true, true, true, true, true, true, true, false, false, false, false] #[true, true, true, true, true, true, true, true, true, false, false, false, true, false] rfl rfl rfl rfl (two_of HT_.out (by kernel_rfl)) (by decide) (by decide) (fun K hK => ?_) (fun K hK => ?_)
                 · skip
                   refine goes_ Tryd.func66 (by kernel_rfl) rfl #[.int .i64 ((rdOf ByteArray.empty t361 (ji10)).size : Int), .int .i64 161] (by rfl) rfl rfl (by (try simp only [List.map_toArray, List.map_cons, List.map_nil]); first | done | (simp only [hji10]; rfl) | rfl | (simp only [List.length_drop, List.length_take]; rfl)) ?_
                   with_reducible refine (spec_l1Min.calls ((rdOf ByteArray.empty t361 (ji10)).size : Int) 161 t366 _ A13.out).mono ?_
                   rintro e w' ⟨rfl, ⟨nd, rfl⟩⟩
                   refine ⟨_, rfl, ?_⟩
                   refine hK.out _ _ ⟨hHeld.1, hHeld.2⟩ (fun hHeld => ?_)
                   clear hK K
                   refine norm_ (a' := ?_) ?_ ?_
                   rotate_left
                   · show Act.put _ (some 36) _ = _
                     simp only [Act.put, List.setIfInBounds_toArray, List.set_cons_zero, List.set_cons_succ, i64_w, i32_w]
                     rfl
                   refine pure_ (i := 10) (N := some 37) (v := ?_) (a' := ?_) #[true, true, true, true, true, true, true, true, true, true, true, false, false, false] rfl rfl (any_of HT_.out (by kernel_rfl)) (fun _ _ _ h => h) (Or.inl ⟨by rfl, ?_⟩) ?_ ?_
                   rotate_left
                   · intro w'
                     go_simp
                     with_reducible rfl
                   rotate_left
                   · simp only [Act.put, List.setIfInBounds_toArray, List.set_cons_zero, List.set_cons_succ, i64_w, i32_w]
                     rfl
                   refine pure_ (i := 11) (N := some 38) (v := ?_) (a' := ?_) #[true, true, true, true, true, true, true, true, true, true, true, true, false, false] rfl rfl (any_of HT_.out (by kernel_rfl)) (fun _ _ _ h => h) (Or.inl ⟨by rfl, ?_⟩) ?_ ?_
                   rotate_left
                   · intro w'
                     go_simp
                     with_reducible rfl
                   rotate_left
                   · simp only [Act.put, List.setIfInBounds_toArray, List.set_cons_zero, List.set_cons_succ, i64_w, i32_w]
                     rfl
                   refine one_ (i := 12) (N := some 7) #[true, true, true, true, true, true, true, true, true, true, true, true, true, false] rfl rfl (one_of HT_.out (by kernel_rfl)) (by decide) (fun K hK => ?_)
                   refine box_step ?hg (N := 7) ?hd (cs := #[.int .i64 0, .slice none 0 0, .string (⟨#[]⟩ : ByteArray)]) (t := 53) ?hr ?_; (case hd => rfl); (case hg => rfl); (case hr => first | (go_simp; done) | (go_simp; rfl))
                   intro gb367 hg w20 hbox hb
                   have HS0_ := (hb.cell (World.block_lt_of_cell? _ _ (hHeld.1))).trans (hHeld.1)
                   have HS1_ := (hb.cell (World.block_lt_of_cell? _ _ (hHeld.2))).trans (hHeld.2)
                   have n_ := t8 (Kd.R_below (pR HO363) hb) (blk_below (g := gb360) (o := .cells #[.int .i64 0, .slice none 0 0, .string (⟨#[]⟩ : ByteArray)] 53 (0, 0)) (pK BK360) hb) (bz_ pB hb) (hbox) ((by rw [hg]; exact (bs_ pB) : w.heap.size ≤ gb367)) ((by rw [hg]; exact (bs_ pB) : w.heap.size ≤ gb367)) ((by rw [hg]; exact Nat.ne_of_lt (blk_lt (g := gb360) (o := .cells #[.int .i64 0, .slice none 0 0, .string (⟨#[]⟩ : ByteArray)] 53 (0, 0)) (pK BK360)) : gb360 ≠ gb367)) ((by rw [hg]; exact Nat.ne_of_gt (blk_lt (g := gb360) (o := .cells #[.int .i64 0, .slice none 0 0, .string (⟨#[]⟩ : ByteArray)] 53 (0, 0)) (pK BK360)) : gb367 ≠ gb360))
                   clear HO363 BK360 HB; obtain ⟨HO363, BK360, HB, BK367, GW367, GE367, NB360_367, NB367_360⟩ := n_; clear hb hbox hg
                   refine hK.out _ _ ⟨HS0_, HS1_⟩ (fun hHeld => ?_)
                   clear hK K
                   refine norm_ (a' := ?_) ?_ ?_
                   rotate_left
                   · show Act.put _ (some 7) _ = _
                     simp only [Act.put, List.setIfInBounds_toArray, List.set_cons_zero, List.set_cons_succ, i64_w, i32_w]
                     rfl
                   exact norm_ (by simp only [putAll, Act.put, List.setIfInBounds_toArray, List.set_cons_zero, List.set_cons_succ]) (hCont (gb367) _ ⟨hHeld, (pR HO363), (pK BK360), (pK BK367), GW367.out, GE367.out, NB360_367.out, NB367_360.out, pB⟩)
                 · skip
                   refine box_step ?hg (N := 7) ?hd (cs := #[.int .i64 0, .slice none 0 0, .string (⟨#[]⟩ : ByteArray)]) (t := 53) ?hr ?_; (case hd => rfl); (case hg => rfl); (case hr => first | (go_simp; done) | (go_simp; rfl))
                   intro gb367 hg w20 hbox hb
                   have HS0_ := (hb.cell (World.block_lt_of_cell? _ _ (hHeld.1))).trans (hHeld.1)
                   have HS1_ := (hb.cell (World.block_lt_of_cell? _ _ (hHeld.2))).trans (hHeld.2)
                   have n_ := t8 (Kd.R_below (pR HO363) hb) (blk_below (g := gb360) (o := .cells #[.int .i64 0, .slice none 0 0, .string (⟨#[]⟩ : ByteArray)] 53 (0, 0)) (pK BK360) hb) (bz_ pB hb) (hbox) ((by rw [hg]; exact (bs_ pB) : w.heap.size ≤ gb367)) ((by rw [hg]; exact (bs_ pB) : w.heap.size ≤ gb367)) ((by rw [hg]; exact Nat.ne_of_lt (blk_lt (g := gb360) (o := .cells #[.int .i64 0, .slice none 0 0, .string (⟨#[]⟩ : ByteArray)] 53 (0, 0)) (pK BK360)) : gb360 ≠ gb367)) ((by rw [hg]; exact Nat.ne_of_gt (blk_lt (g := gb360) (o := .cells #[.int .i64 0, .slice none 0 0, .string (⟨#[]⟩ : ByteArray)] 53 (0, 0)) (pK BK360)) : gb367 ≠ gb360))
                   clear HO363 BK360 HB; obtain ⟨HO363, BK360, HB, BK367, GW367, GE367, NB360_367, NB367_360⟩ := n_; clear hb hbox hg
                   refine hK.out _ _ ⟨HS0_, HS1_⟩ (fun hHeld => ?_)
                   clear hK K
                   refine norm_ (a' := ?_) ?_ ?_
                   rotate_left
                   · show Act.put _ (some 7) _ = _
                     simp only [Act.put, List.setIfInBounds_toArray, List.set_cons_zero, List.set_cons_succ, i64_w, i32_w]
                     rfl
                   refine one_ (i := 9) (N := some 36) #[true, true, true, true, true, true, true, true, true, true, false, false, true, false] rfl rfl (one_of HT_.out (by kernel_rfl)) (by decide) (fun K hK => ?_)
                   refine goes_ Tryd.func66 (by kernel_rfl) rfl #[.int .i64 ((rdOf ByteArray.empty t361 (ji10)).size : Int), .int .i64 161] (by rfl) rfl rfl (by (try simp only [List.map_toArray, List.map_cons, List.map_nil]); first | done | (simp only [hji10]; rfl) | rfl | (simp only [List.length_drop, List.length_take]; rfl)) ?_
                   with_reducible refine (spec_l1Min.calls ((rdOf ByteArray.empty t361 (ji10)).size : Int) 161 t366 _ A13.out).mono ?_
                   rintro e w' ⟨rfl, ⟨nd, rfl⟩⟩
                   refine ⟨_, rfl, ?_⟩
                   refine hK.out _ _ ⟨hHeld.1, hHeld.2⟩ (fun hHeld => ?_)
                   clear hK K
                   refine norm_ (a' := ?_) ?_ ?_
                   rotate_left
                   · show Act.put _ (some 36) _ = _
                     simp only [Act.put, List.setIfInBounds_toArray, List.set_cons_zero, List.set_cons_succ, i64_w, i32_w]
                     rfl
                   refine pure_ (i := 10) (N := some 37) (v := ?_) (a' := ?_) #[true, true, true, true, true, true, true, true, true, true, true, false, true, false] rfl rfl (any_of HT_.out (by kernel_rfl)) (fun _ _ _ h => h) (Or.inl ⟨by rfl, ?_⟩) ?_ ?_
                   rotate_left
                   · intro w'
                     go_simp
                     with_reducible rfl
                   rotate_left
                   · simp only [Act.put, List.setIfInBounds_toArray, List.set_cons_zero, List.set_cons_succ, i64_w, i32_w]
                     rfl
                   refine pure_ (i := 11) (N := some 38) (v := ?_) (a' := ?_) #[true, true, true, true, true, true, true, true, true, true, true, true, true, false] rfl rfl (any_of HT_.out (by kernel_rfl)) (fun _ _ _ h => h) (Or.inl ⟨by rfl, ?_⟩) ?_ ?_
                   rotate_left
                   · intro w'
                     go_simp
                     with_reducible rfl
                   rotate_left
                   · simp only [Act.put, List.setIfInBounds_toArray, List.set_cons_zero, List.set_cons_succ, i64_w, i32_w]
                     rfl
                   exact norm_ (by simp only [putAll, Act.put, List.setIfInBounds_toArray, List.set_cons_zero, List.set_cons_succ]) (hCont (gb367) _ ⟨hHeld, (pR HO363), (pK BK360), (pK BK367), GW367.out, GE367.out, NB360_367.out, NB367_360.out, pB⟩)
               rintro gb367 w21 ⟨hS_, h0_, h1_, h2_, h3_, h4_, h5_, h6_, h7_⟩
               have n0_ : Aside0 (Kd.R Kd.string 9 w21 w.heap.size (fun _ => True) (.slice (some ad364) t361.length co18) t361) := ⟨h0_⟩
               have n1_ : Aside0 (w21.heap[gb360]? = some (.cells #[.int .i64 0, .slice none 0 0, .string (⟨#[]⟩ : ByteArray)] 53 (0, 0))) := ⟨h1_⟩
               have n2_ : Aside0 (w21.heap[gb367]? = some (.cells #[.int .i64 0, .slice none 0 0, .string (⟨#[]⟩ : ByteArray)] 53 (0, 0))) := ⟨h2_⟩
               have n3_ : Aside0 (w.heap.size ≤ gb367) := ⟨h3_⟩
               have n4_ : Aside0 (w.heap.size ≤ gb367) := ⟨h4_⟩
               have n5_ : Aside0 (gb360 ≠ gb367) := ⟨h5_⟩
               have n6_ : Aside0 (gb367 ≠ gb360) := ⟨h6_⟩
               have n7_ : Aside0 (Below w.heap.size w w21) := ⟨h7_⟩
               clear HO363; clear BK360; clear HB; clear h0_ h1_ h2_ h3_ h4_ h5_ h6_ h7_
               have HO363 := n0_
               have BK360 := n1_
               have BK367 := n2_
               have GW367 := n3_
               have GE367 := n4_
               have NB360_367 := n5_
               have NB367_360 := n6_
               have HB := n7_
               clear n0_ n1_ n2_ n3_ n4_ n5_ n6_ n7_
               have hHeld : w21.cell? (ad364.add ((ji10)).toNat) = some (.string (rdOf ByteArray.empty t361 (ji10))) ∧ w21.cell? (ad364.add ((ji10)).toNat) = some (.string (rdOf ByteArray.empty t361 (ji10))) := hS_
               refine norm_ (a' := ?_) ?_ ?_
               rotate_left
               · simp only [putAll, Act.put, List.setIfInBounds_toArray, List.set_cons_zero, List.set_cons_succ]
                 rfl
               refine one_ (i := 13) (N := none) #[true, true, true, true, true, true, true, true, true, true, true, true, true, true] rfl rfl (one_of HT_.out (by kernel_rfl)) (by decide) (fun K hK => ?_)
               have hs22 : w21.cell? ⟨gb367, 0, none⟩ = some (.int .i64 0) := (blk_cell BK367.out 0).trans rfl
               have hfs22 := blk_frozen BK367.out 0
               have hns22_0 := NB360_367.out
               have hms22_0 := NB367_360.out
               have hs23 : w21.cell? ⟨gb367, 1, none⟩ = some (.slice none 0 0) := (blk_cell BK367.out 1).trans rfl
               have hfs23 := blk_frozen BK367.out 1
               have hns23_0 := NB360_367.out
               have hms23_0 := NB367_360.out
               have hs24 : w21.cell? ⟨gb367, 2, none⟩ = some (.string (⟨#[]⟩ : ByteArray)) := (blk_cell BK367.out 2).trans rfl
               have hfs24 := blk_frozen BK367.out 2
               have hns24_0 := NB360_367.out
               have hms24_0 := NB367_360.out
               refine skip_ (w1 := ?_) (by rfl) rfl ?_ ?_
               rotate_left
               · go_simp
                 rfl
               refine hK.out _ _ ⟨((cell_far (p := ⟨gb367, _, none⟩) (by first | exact Kd.own_blk (Kd.R_ne HO363.out BK367.out (by decide)) | (rw [add_block]; exact Kd.own_blk (Kd.R_ne HO363.out BK367.out (by decide))) | (show (Addr.add _ _).block ≠ _; rw [add_block]; exact Kd.own_blk (Kd.R_ne HO363.out BK367.out (by decide))) | (dsimp only; exact Kd.own_blk (Kd.R_ne HO363.out BK367.out (by decide)))) _).trans (((cell_far (p := ⟨gb367, _, none⟩) (by first | exact Kd.own_blk (Kd.R_ne HO363.out BK367.out (by decide)) | (rw [add_block]; exact Kd.own_blk (Kd.R_ne HO363.out BK367.out (by decide))) | (show (Addr.add _ _).block ≠ _; rw [add_block]; exact Kd.own_blk (Kd.R_ne HO363.out BK367.out (by decide))) | (dsimp only; exact Kd.own_blk (Kd.R_ne HO363.out BK367.out (by decide)))) _).trans (((cell_far (p := ⟨gb367, _, none⟩) (by first | exact Kd.own_blk (Kd.R_ne HO363.out BK367.out (by decide)) | (rw [add_block]; exact Kd.own_blk (Kd.R_ne HO363.out BK367.out (by decide))) | (show (Addr.add _ _).block ≠ _; rw [add_block]; exact Kd.own_blk (Kd.R_ne HO363.out BK367.out (by decide))) | (dsimp only; exact Kd.own_blk (Kd.R_ne HO363.out BK367.out (by decide)))) _).trans (hHeld.1)))))), ((cell_far (p := ⟨gb367, _, none⟩) (by first | exact Kd.own_blk (Kd.R_ne HO363.out BK367.out (by decide)) | (rw [add_block]; exact Kd.own_blk (Kd.R_ne HO363.out BK367.out (by decide))) | (show (Addr.add _ _).block ≠ _; rw [add_block]; exact Kd.own_blk (Kd.R_ne HO363.out BK367.out (by decide))) | (dsimp only; exact Kd.own_blk (Kd.R_ne HO363.out BK367.out (by decide)))) _).trans (((cell_far (p := ⟨gb367, _, none⟩) (by first | exact Kd.own_blk (Kd.R_ne HO363.out BK367.out (by decide)) | (rw [add_block]; exact Kd.own_blk (Kd.R_ne HO363.out BK367.out (by decide))) | (show (Addr.add _ _).block ≠ _; rw [add_block]; exact Kd.own_blk (Kd.R_ne HO363.out BK367.out (by decide))) | (dsimp only; exact Kd.own_blk (Kd.R_ne HO363.out BK367.out (by decide)))) _).trans (((cell_far (p := ⟨gb367, _, none⟩) (by first | exact Kd.own_blk (Kd.R_ne HO363.out BK367.out (by decide)) | (rw [add_block]; exact Kd.own_blk (Kd.R_ne HO363.out BK367.out (by decide))) | (show (Addr.add _ _).block ≠ _; rw [add_block]; exact Kd.own_blk (Kd.R_ne HO363.out BK367.out (by decide))) | (dsimp only; exact Kd.own_blk (Kd.R_ne HO363.out BK367.out (by decide)))) _).trans (hHeld.2))))))⟩ (fun hHeld => ?_)
               clear hK K
               refine done_ (done_of HT_.out (by kernel_rfl)) ?_
               try go_wp2
               go_loopg [8] kj2 (fun kq v8 w' => ∃ (x8_2 : Int) (x368001_2 : List ByteArray) (u368001 : Value), v8 = .int .i64 x8_2 ∧ Aside0 (spec_CutLines.l0 kq t361 ji10 x8_2 0 x368001_2 ((rdOf ByteArray.empty t361 (ji10)).extract 0 (t366 : Int).toNat) = some (r1, r2, r3)) ∧ Aside0 (kq ≤ kj2) ∧ Aside0 (Kd.R Kd.string 9 w' w.heap.size (fun k_ => some k_ ≠ (u368001 : Value).ownBlock) (.slice (some ad364) t361.length co18) t361) ∧ Aside0 (Kd.R Kd.string 9 w' w.heap.size (fun k_ => some k_ ≠ ((.slice (some ad364) t361.length co18) : Value).ownBlock) u368001 x368001_2) ∧ Aside0 (w'.heap[gb360]? = some (.cells #[.int .i64 0, (.slice none 0 0), .string (⟨#[]⟩ : ByteArray)] 53 (0, 0))) ∧ Aside0 (w'.heap[gb367]? = some (.cells #[.int .i64 0, u368001, .string ((rdOf ByteArray.empty t361 (ji10)).extract 0 (t366 : Int).toNat)] 53 (0, 0))) ∧ Aside0 (Below w.heap.size w w'))
               case atStart => exact ⟨(0), (([] : List ByteArray)), (.slice none 0 0), pF, H', ⟨Nat.le_refl _⟩, ⟨(pT (Kd.R_mono (Kd.R_far (p := ⟨gb367, 2, none⟩) (Kd.R_far (p := ⟨gb367, 1, none⟩) (Kd.R_far (p := ⟨gb367, 0, none⟩) (Kd.R_types HO363.out BK367.out (by decide)) (fun _ hk => hk.2) (.int .i64 0)) (fun _ hk => hk.2) (.slice none 0 0)) (fun _ hk => hk.2) (.string ((rdOf ByteArray.empty t361 (ji10)).extract 0 (t366 : Int).toNat))) (fun _ hk => (by simp [Value.ownBlock]))))⟩, ⟨by first | exact Kd.R_nil _ _ _ _ _ | exact Kd.N_nil _ _ _ _ _ | exact Kd.V_nil _ _ _ _ _ | exact Kd.Q_nil _ _ _ _ _ | exact Kd.S_nil _ _ _ _ _⟩, ⟨by (with_reducible repeat (first | refine blk_drewN ?_ _ | refine blk_drew ?_ | refine blk_alloc ?_ _)); refine blk_far ?_ NB360_367.out _; (with_reducible repeat (first | refine blk_drewN ?_ _ | refine blk_drew ?_ | refine blk_alloc ?_ _)); refine blk_far ?_ NB360_367.out _; (with_reducible repeat (first | refine blk_drewN ?_ _ | refine blk_drew ?_ | refine blk_alloc ?_ _)); refine blk_far ?_ NB360_367.out _; (with_reducible repeat (first | refine blk_drewN ?_ _ | refine blk_drew ?_ | refine blk_alloc ?_ _)); exact BK360.out⟩, ⟨by (with_reducible repeat (first | refine blk_drewN ?_ _ | refine blk_drew ?_ | refine blk_alloc ?_ _)); refine blk_put (cs := #[.int .i64 0, .slice none 0 0, .string (⟨#[]⟩ : ByteArray)]) ?_ 2 _ rfl; (with_reducible repeat (first | refine blk_drewN ?_ _ | refine blk_drew ?_ | refine blk_alloc ?_ _)); refine blk_put (cs := #[.int .i64 0, .slice none 0 0, .string (⟨#[]⟩ : ByteArray)]) ?_ 1 _ rfl; (with_reducible repeat (first | refine blk_drewN ?_ _ | refine blk_drew ?_ | refine blk_alloc ?_ _)); refine blk_put (cs := #[.int .i64 0, .slice none 0 0, .string (⟨#[]⟩ : ByteArray)]) ?_ 0 _ rfl; (with_reducible repeat (first | refine blk_drewN ?_ _ | refine blk_drew ?_ | refine blk_alloc ?_ _)); exact BK367.out⟩, ⟨pB⟩⟩
               case round =>
                clear H'
                (try clear c1); (try clear c6); (try clear c8); (try clear c8b0); (try clear c8b1); (try clear c8b2); (try clear c11); (try clear c11b0); (try clear c12); (try clear c12b0); (try clear c14); (try clear c14b0); (try clear c14b1); (try clear c15); (try clear c15b0); (try clear c15b1); (try clear hcv16); (try clear hx364_0); (try clear hx365_0); (try clear p364); (try clear p365); (try clear q364); (try clear q365)
                obtain ⟨x8_2, x368001_2, u368001, rfl, HA, HK2, HO_5, HO_368001, BK360, BK367, HB⟩ := hrel
                cases gk with
                | zero => exact absurd HA.out (by simp [spec_CutLines.l0])
                | succ k2 =>
                 have H := HA.out
                 clear HA
                 simp only [spec_CutLines.l0] at H
                 by_cases c25 : x8_2 < ji10
                 · rw [if_pos c25] at H
                   have c25b0 : decide (x8_2 < ji10) = true := dt c25
                   clear c25
                   by_cases c26 : 0 ≤ x8_2
                   · rw [if_pos c26] at H
                     have c26b0 : decide (0 ≤ x8_2) = true := dt c26
                     clear c26
                     by_cases c27 : x8_2 < (t361.length : Int)
                     · rw [if_pos c27] at H
                       have c27b0 : decide (x8_2 < (t361.length : Int)) = true := dt c27
                       clear c27
                       by_cases c28 : ((rdOf ByteArray.empty t361 x8_2).size : Int) > 160
                       · rw [if_pos c28] at H
                         have c28b0 : decide (160 < ((rdOf ByteArray.empty t361 x8_2).size : Int)) = true := dt c28
                         have c28b1 : decide (160 < (rdOf ByteArray.empty t361 x8_2).size) = true := dt (by omega)
                         clear c28
                         by_cases c29 : x368001_2.length < 8796093022208
                         · rw [if_pos c29] at H
                           have LMc29 := am c29; clear c29
                           obtain ⟨y369, hy369⟩ : ∃ y_ : List ByteArray, y_ = (x368001_2 ++ [(⟨#[]⟩ : ByteArray)]) := ⟨_, rfl⟩
                           replace H : (spec_CutLines.l0 k2 t361 ji10 (wrap64 (x8_2 + 1)) 0 y369 ((rdOf ByteArray.empty t361 (ji10)).extract 0 (t366 : Int).toNat)) = some (r1, r2, r3) := by first | (rw [hy369]; with_reducible exact H) | (have H2_ := (Option.bind_some _ _).symm.trans H; rw [hy369]; with_reducible exact H2_) | (have H2_ := (Option.bind_some _ _).symm.trans H; with_reducible exact H2_) | with_reducible exact H | (rw [hy369]; exact H) | exact H
                           have Ny369 := am hy369; clear hy369
                           have H' := am H
                           clear H
                           have p368 : 0 ≤ (x8_2 : Int) := pD
                           have q368 : x8_2 < (t361.length : Int) := pD
                           obtain ⟨ad368, e368, hx368_0⟩ := Kd.at_string (rr HO_5.out).2.2 x8_2 p368 q368
                           obtain rfl : ad364 = ad368 := (by injection e368)
                           replace p368 := eq_true p368; replace q368 := eq_true q368
                           have hnb30 := NB367_360.out
                           have hnc30 := NB360_367.out
                           obtain ⟨hcz31_0, hcz31_1, hcz31_2, hfz31_0, hfz31_1, hfz31_2⟩ := bx3 BK367
                           go_wp2_with (first | ((with_reducible refine gB (b := .append) (xs := #[.tmp 52, .tmp 54]) rfl ?_); (try (refine gate_guard (by rfl) ?_; dsimp only)); at_builtin; refine Kd.R_append Kd.string (w0 := w) w.heap.size rfl (.tmp 52) (.tmp 54) 22 9 (.string ⟨#[]⟩) 16 rfl Tryd.underlying22 info9 rfl (by decide) (by omega) u368001 x368001_2 (⟨#[]⟩ : ByteArray) [.string (⟨#[]⟩ : ByteArray)] (fun k_ => some k_ ≠ (.slice (some ad364) t361.length co18 : Value).ownBlock) (fun _ => False) rfl rfl ?aP (fun _ hk => hk.elim) ?aF ?aO ?aB ?aS ?aL ?_; (case aP => exact rfl); (case aB => exact pB); (case aF => exact (fun k_ hk => Kd.fresh' (Kd.R_lt (pR HO_5)) k_ hk)); (case aO => exact (pR HO_368001)); (case aS => exact (bs_ pB)); (case aL => have := LMc29.out; omega); intro v370 w32 ho hb hg hat; rw [← Ny369.out] at ho; have n_ := t5 (Kd.R_after (ok := (fun _ => True)) (pT (Kd.R_mono HO_5.out (fun _ hk => ⟨trivial, hk⟩))) hg hat) (blk_grown (g := gb360) (o := .cells #[.int .i64 0, .slice none 0 0, .string (⟨#[]⟩ : ByteArray)] 53 (0, 0)) (pK BK360) hg (Kd.R_ne HO_368001.out BK360.out (by decide))) (blk_grown (g := gb367) (o := .cells #[.int .i64 0, u368001, .string ((rdOf ByteArray.empty t361 (ji10)).extract 0 (t366 : Int).toNat)] 53 (0, 0)) (pK BK367) hg (Kd.R_ne HO_368001.out BK367.out (by decide))) (hb) (ho); clear HO_5 BK360 BK367 HB HO_368001; obtain ⟨HO_5, BK360, BK367, HB, HO371⟩ := n_; clear ho hb hg hat; obtain ⟨Ao33, co33, eo33⟩ := rS HO371.out; subst eo33; have hcz34_0 : w32.cell? ⟨gb367, 0, none⟩ = some (.int .i64 0) := (blk_cell BK367.out 0).trans rfl; have hcz34_1 : w32.cell? ⟨gb367, 1, none⟩ = some (u368001) := (blk_cell BK367.out 1).trans rfl; have hcz34_2 : w32.cell? ⟨gb367, 2, none⟩ = some (.string ((rdOf ByteArray.empty t361 (ji10)).extract 0 (t366 : Int).toNat)) := (blk_cell BK367.out 2).trans rfl; have hfz34_0 := blk_frozen BK367.out 0; have hfz34_1 := blk_frozen BK367.out 1; have hfz34_2 := blk_frozen BK367.out 2))
                           go_roundg k2
                           case measure => have := HJ2.out; have := HK2.out; omega
                           case rel => exact ⟨(wrap64 (x8_2 + 1)), (y369), (.slice Ao33 y369.length co33), pF, H', ⟨by have := HJ2.out; have := HK2.out; omega⟩, ⟨(pT (Kd.R_mono (Kd.R_far (p := ⟨gb367, 1, none⟩) (Kd.R_types HO_5.out BK367.out (by decide)) (fun _ hk => hk.2) (.slice Ao33 y369.length co33)) (fun _ hk => hk.1.2)))⟩, ⟨(pT (Kd.R_mono (Kd.R_far (p := ⟨gb367, 1, none⟩) (Kd.R_types HO371.out BK367.out (by decide)) (fun _ hk => hk.2) (.slice Ao33 y369.length co33)) (fun _ hk => hk.1)))⟩, ⟨by (with_reducible repeat (first | refine blk_drewN ?_ _ | refine blk_drew ?_ | refine blk_alloc ?_ _)); refine blk_far ?_ NB360_367.out _; (with_reducible repeat (first | refine blk_drewN ?_ _ | refine blk_drew ?_ | refine blk_alloc ?_ _)); exact BK360.out⟩, ⟨by (with_reducible repeat (first | refine blk_drewN ?_ _ | refine blk_drew ?_ | refine blk_alloc ?_ _)); refine blk_put (cs := #[.int .i64 0, u368001, .string ((rdOf ByteArray.empty t361 (ji10)).extract 0 (t366 : Int).toNat)]) ?_ 1 _ rfl; (with_reducible repeat (first | refine blk_drewN ?_ _ | refine blk_drew ?_ | refine blk_alloc ?_ _)); exact BK367.out⟩, ⟨pB⟩⟩
                         · rw [if_neg c29] at H
                           exact absurd H (by simp)
                       · rw [if_neg c28] at H
                         have c28b0 : decide (160 < ((rdOf ByteArray.empty t361 x8_2).size : Int)) = false := decide_eq_false c28
                         have c28b1 : decide (160 < (rdOf ByteArray.empty t361 x8_2).size) = false := decide_eq_false (by omega)
                         clear c28
                         by_cases c35 : x368001_2.length < 8796093022208
                         · rw [if_pos c35] at H
                           have LMc35 := am c35; clear c35
                           obtain ⟨y372, hy372⟩ : ∃ y_ : List ByteArray, y_ = (x368001_2 ++ [rdOf ByteArray.empty t361 x8_2]) := ⟨_, rfl⟩
                           replace H : (spec_CutLines.l0 k2 t361 ji10 (wrap64 (x8_2 + 1)) 0 y372 ((rdOf ByteArray.empty t361 (ji10)).extract 0 (t366 : Int).toNat)) = some (r1, r2, r3) := by first | (rw [hy372]; with_reducible exact H) | (have H2_ := (Option.bind_some _ _).symm.trans H; rw [hy372]; with_reducible exact H2_) | (have H2_ := (Option.bind_some _ _).symm.trans H; with_reducible exact H2_) | with_reducible exact H | (rw [hy372]; exact H) | exact H
                           have Ny372 := am hy372; clear hy372
                           have H' := am H
                           clear H
                           have p368 : 0 ≤ (x8_2 : Int) := pD
                           have q368 : x8_2 < (t361.length : Int) := pD
                           obtain ⟨ad368, e368, hx368_0⟩ := Kd.at_string (rr HO_5.out).2.2 x8_2 p368 q368
                           obtain rfl : ad364 = ad368 := (by injection e368)
                           replace p368 := eq_true p368; replace q368 := eq_true q368
                           have hnb36 := NB367_360.out
                           have hnc36 := NB360_367.out
                           obtain ⟨hcz37_0, hcz37_1, hcz37_2, hfz37_0, hfz37_1, hfz37_2⟩ := bx3 BK367
                           go_wp2_with (first | ((with_reducible refine gB (b := .append) (xs := #[.tmp 52, .tmp 54]) rfl ?_); (try (refine gate_guard (by rfl) ?_; dsimp only)); at_builtin; refine Kd.R_append Kd.string (w0 := w) w.heap.size rfl (.tmp 52) (.tmp 54) 22 9 (.string ⟨#[]⟩) 16 rfl Tryd.underlying22 info9 rfl (by decide) (by omega) u368001 x368001_2 (rdOf ByteArray.empty t361 x8_2) [.string (rdOf ByteArray.empty t361 x8_2)] (fun k_ => some k_ ≠ (.slice (some ad364) t361.length co18 : Value).ownBlock) (fun _ => False) rfl rfl ?aP (fun _ hk => hk.elim) ?aF ?aO ?aB ?aS ?aL ?_; (case aP => exact rfl); (case aB => exact pB); (case aF => exact (fun k_ hk => Kd.fresh' (Kd.R_lt (pR HO_5)) k_ hk)); (case aO => exact (pR HO_368001)); (case aS => exact (bs_ pB)); (case aL => have := LMc35.out; omega); intro v373 w38 ho hb hg hat; rw [← Ny372.out] at ho; have n_ := t5 (Kd.R_after (ok := (fun _ => True)) (pT (Kd.R_mono HO_5.out (fun _ hk => ⟨trivial, hk⟩))) hg hat) (blk_grown (g := gb360) (o := .cells #[.int .i64 0, .slice none 0 0, .string (⟨#[]⟩ : ByteArray)] 53 (0, 0)) (pK BK360) hg (Kd.R_ne HO_368001.out BK360.out (by decide))) (blk_grown (g := gb367) (o := .cells #[.int .i64 0, u368001, .string ((rdOf ByteArray.empty t361 (ji10)).extract 0 (t366 : Int).toNat)] 53 (0, 0)) (pK BK367) hg (Kd.R_ne HO_368001.out BK367.out (by decide))) (hb) (ho); clear HO_5 BK360 BK367 HB HO_368001; obtain ⟨HO_5, BK360, BK367, HB, HO374⟩ := n_; clear ho hb hg hat; obtain ⟨Ao39, co39, eo39⟩ := rS HO374.out; subst eo39; have hcz40_0 : w38.cell? ⟨gb367, 0, none⟩ = some (.int .i64 0) := (blk_cell BK367.out 0).trans rfl; have hcz40_1 : w38.cell? ⟨gb367, 1, none⟩ = some (u368001) := (blk_cell BK367.out 1).trans rfl; have hcz40_2 : w38.cell? ⟨gb367, 2, none⟩ = some (.string ((rdOf ByteArray.empty t361 (ji10)).extract 0 (t366 : Int).toNat)) := (blk_cell BK367.out 2).trans rfl; have hfz40_0 := blk_frozen BK367.out 0; have hfz40_1 := blk_frozen BK367.out 1; have hfz40_2 := blk_frozen BK367.out 2))
                           go_roundg k2
                           case measure => have := HJ2.out; have := HK2.out; omega
                           case rel => exact ⟨(wrap64 (x8_2 + 1)), (y372), (.slice Ao39 y372.length co39), pF, H', ⟨by have := HJ2.out; have := HK2.out; omega⟩, ⟨(pT (Kd.R_mono (Kd.R_far (p := ⟨gb367, 1, none⟩) (Kd.R_types HO_5.out BK367.out (by decide)) (fun _ hk => hk.2) (.slice Ao39 y372.length co39)) (fun _ hk => hk.1.2)))⟩, ⟨(pT (Kd.R_mono (Kd.R_far (p := ⟨gb367, 1, none⟩) (Kd.R_types HO374.out BK367.out (by decide)) (fun _ hk => hk.2) (.slice Ao39 y372.length co39)) (fun _ hk => hk.1)))⟩, ⟨by (with_reducible repeat (first | refine blk_drewN ?_ _ | refine blk_drew ?_ | refine blk_alloc ?_ _)); refine blk_far ?_ NB360_367.out _; (with_reducible repeat (first | refine blk_drewN ?_ _ | refine blk_drew ?_ | refine blk_alloc ?_ _)); exact BK360.out⟩, ⟨by (with_reducible repeat (first | refine blk_drewN ?_ _ | refine blk_drew ?_ | refine blk_alloc ?_ _)); refine blk_put (cs := #[.int .i64 0, u368001, .string ((rdOf ByteArray.empty t361 (ji10)).extract 0 (t366 : Int).toNat)]) ?_ 1 _ rfl; (with_reducible repeat (first | refine blk_drewN ?_ _ | refine blk_drew ?_ | refine blk_alloc ?_ _)); exact BK367.out⟩, ⟨pB⟩⟩
                         · rw [if_neg c35] at H
                           exact absurd H (by simp)
                     · rw [if_neg c27] at H
                       exact absurd H (by simp)
                   · rw [if_neg c26] at H
                     exact absurd H (by simp)
                 · rw [if_neg c25] at H
                   have c25b0 : decide (x8_2 < ji10) = false := decide_eq_false c25
                   clear c25
                   simp only [Option.some.injEq, Prod.mk.injEq] at H
                   obtain ⟨rfl, rfl, rfl⟩ := H
                   have hnb41 := NB367_360.out
                   have hnc41 := NB360_367.out
                   obtain ⟨hcz42_0, hcz42_1, hcz42_2, hfz42_0, hfz42_1, hfz42_2⟩ := bx3 BK367
                   obtain ⟨hcz43_0, hcz43_1, hcz43_2, hfz43_0, hfz43_1, hfz43_2⟩ := bx3 BK360
                   obtain ⟨Ao44, co44, eo44⟩ := rS HO_368001.out
                   subst eo44
                   go_wp2
                   refine bodyPost_ret (results_cell_row rfl _ _ gb360 53 #[.int .i64 0, .slice Ao44 x368001_2.length co44, .string ((rdOf ByteArray.empty t361 (ji10)).extract 0 (t366 : Int).toNat)] (0, 0) _ rfl (by (with_reducible repeat (first | refine blk_drewN ?_ _ | refine blk_drew ?_ | refine blk_alloc ?_ _)); refine blk_put (cs := #[.int .i64 0, .slice Ao44 x368001_2.length co44, .string (⟨#[]⟩ : ByteArray)]) ?_ 2 _ rfl; (with_reducible repeat (first | refine blk_drewN ?_ _ | refine blk_drew ?_ | refine blk_alloc ?_ _)); refine blk_put (cs := #[.int .i64 0, .slice none 0 0, .string (⟨#[]⟩ : ByteArray)]) ?_ 1 _ rfl; (with_reducible repeat (first | refine blk_drewN ?_ _ | refine blk_drew ?_ | refine blk_alloc ?_ _)); refine blk_put (cs := #[.int .i64 0, .slice none 0 0, .string (⟨#[]⟩ : ByteArray)]) ?_ 0 _ rfl; (with_reducible repeat (first | refine blk_drewN ?_ _ | refine blk_drew ?_ | refine blk_alloc ?_ _)); exact BK360.out) Tryd.underlying53 rfl (by kernel_rfl)) rfl ?_
                   exact ⟨_, by first | rfl | (simp [errW_none, errW_some] <;> rfl) | (simp only [← hji10]; first | rfl | (simp [errW_none, errW_some] <;> rfl)) | (simp [*, errW_none, errW_some] <;> rfl), (pT (Kd.R_mono (Kd.R_far (p := ⟨gb360, 2, none⟩) (Kd.R_far (p := ⟨gb360, 1, none⟩) (Kd.R_far (p := ⟨gb360, 0, none⟩) (Kd.R_types HO_368001.out BK360.out (by decide)) (fun _ hk => hk.2) (.int .i64 0)) (fun _ hk => hk.2) (.slice Ao44 x368001_2.length co44)) (fun _ hk => hk.2) (.string ((rdOf ByteArray.empty t361 (ji10)).extract 0 (t366 : Int).toNat))) (fun _ hk => trivial))), pB⟩
             · rw [if_neg c15] at H
               exact absurd H (by simp)
           · rw [if_neg c14] at H
             exact absurd H (by simp)
         · rw [if_neg c12] at H
           exact absurd H (by simp)
       · rw [if_neg c11] at H
         exact absurd H (by simp)
     · rw [if_neg c8] at H
       exact absurd H (by simp)
end Go.Proofs.YthjlbpgiaehjnaaDoor.QFnCuts
