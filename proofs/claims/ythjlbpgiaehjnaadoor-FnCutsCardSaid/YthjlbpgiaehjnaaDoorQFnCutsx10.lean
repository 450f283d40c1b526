-- written by this session's program (wip/tools/myprint.py)
import Derived.Test.YthjlbpgiaehjnaaDoorQFnCutsx0
import Derived.Test.YthjlbpgiaehjnaaDoorQFnCutsx9
-- squeezed
namespace Go.Proofs.YthjlbpgiaehjnaaDoor.QFnCuts
open Go.RowKit Go.Proofs.YthjlbpgiaehjnaaDoorW.PrintWords Go.Proofs.YthjlbpgiaehjnaaDoorW.PrintLast Go.Proofs.YthjlbpgiaehjnaaDoorW.PrintMore
attribute [local go_sem] max2_int min2_int max_two min_two max_three min_three max_four min_four   -- for this text's walks alone
set_option linter.unusedVariables false
set_option linter.unusedSimpArgs false
set_option maxHeartbeats 8000000
set_option maxRecDepth 100000
mutual
def spec_l8Twice.l0 : Nat → List (S81) → Int → List ByteArray → Int → Int → Option (Bool)
 | 0, _, _, _, _, _ => none
 | k + 1, x0, x1, x5, x6, x7 => if 0 ≤ x1 then (if x1 < (x0.length : Int) then (if x7 < ((rd_T81 x0 x1).f1) then (spec_l8Twice.l1 k x0 x1 x5 x6 x7 0) else (some false)) else (none)) else (none)
def spec_l8Twice.l1 : Nat → List (S81) → Int → List ByteArray → Int → Int → Int → Option (Bool)
 | 0, _, _, _, _, _, _ => none
 | k + 1, x0, x1, x5, x6, x7, x8 => if x8 < (x5.length : Int) then (if 0 ≤ x8 then (if 0 ≤ x6 then (if x6 < (x0.length : Int) then (if (rdOf ByteArray.empty x5 x8).toList = ((rd_T81 x0 x6).f2).toList then (some true) else (spec_l8Twice.l1 k x0 x1 x5 x6 x7 (wrap64 (x8 + 1)))) else (none)) else (none)) else (none)) else (if 0 ≤ x6 then (if x6 < (x0.length : Int) then (if x5.length < 8796093022208 then ((spec_l8End.f k x0 (wrap64 (x6 + 1))).bind fun t313 => (spec_l8Twice.l0 k x0 x1 (x5 ++ [(rd_T81 x0 x6).f2]) t313 (wrap64 (x7 + 1)))) else (none)) else (none)) else (none))
end
def spec_l8Twice.f (k : Nat) (l0 : List (S81)) (a1 : Int) : Option (Bool) := spec_l8Twice.l0 k l0 a1 (([] : List ByteArray)) (wrap64 (a1 + 1)) 0
theorem spec_l8Twice.mono_l : ∀ k, (∀ y0 y1 y2 y3 y4, LeO (spec_l8Twice.l0 k y0 y1 y2 y3 y4) (spec_l8Twice.l0 (k + 1) y0 y1 y2 y3 y4)) ∧ (∀ y0 y1 y2 y3 y4 y5, LeO (spec_l8Twice.l1 k y0 y1 y2 y3 y4 y5) (spec_l8Twice.l1 (k + 1) y0 y1 y2 y3 y4 y5))
 | 0 => ⟨fun _ _ _ _ _ r h => by simp [spec_l8Twice.l0] at h, fun _ _ _ _ _ _ r h => by simp [spec_l8Twice.l1] at h⟩
 | k + 1 => by
  obtain ⟨ih0, ih1⟩ := spec_l8Twice.mono_l k
  refine ⟨?_, ?_⟩
  · intro y0 y1 y2 y3 y4
    unfold spec_l8Twice.l0
    repeat' with_reducible first | exact ih0 _ _ _ _ _ | exact ih1 _ _ _ _ _ _ | exact spec_l8End.mono _ _ _ | exact LeO.refl _ | exact LeO.none _ | refine LeO.ite ?_ ?_ | refine LeO.bind ?_ (fun _ => ?_)
  · intro y0 y1 y2 y3 y4 y5
    unfold spec_l8Twice.l1
    repeat' with_reducible first | exact ih0 _ _ _ _ _ | exact ih1 _ _ _ _ _ _ | exact spec_l8End.mono _ _ _ | exact LeO.refl _ | exact LeO.none _ | refine LeO.ite ?_ ?_ | refine LeO.bind ?_ (fun _ => ?_)
theorem spec_l8Twice.mono : ∀ a0 a1 k, LeO (spec_l8Twice.f k a0 a1) (spec_l8Twice.f (k + 1) a0 a1) := by
 intro a0 a1 k
 obtain ⟨ih0, ih1⟩ := spec_l8Twice.mono_l k
 unfold spec_l8Twice.f
 repeat' with_reducible first | exact ih0 _ _ _ _ _ | exact ih1 _ _ _ _ _ _ | exact spec_l8End.mono _ _ _ | exact LeO.refl _ | exact LeO.none _ | refine LeO.ite ?_ ?_ | refine LeO.bind ?_ (fun _ => ?_)
theorem spec_l8Twice.calls (k : Nat) (A0 : Option Addr) (c0 : Nat) (l0 : List (S81)) (a1 : Int) (r : Bool) (w : World) (hr0 : Kd.C k81 w A0 l0.length l0) (hc0 : l0.length ≤ c0) (h : spec_l8Twice.f k l0 a1 = some r) :
 Calls Tryd.prog 82 #[.slice A0 l0.length c0, .int .i64 a1] w fun e w' => e = .returned (.bool r) ∧ Below w.heap.size w w' := by
 have HR0 := am hr0; have HC0 := am hc0; clear hr0 hc0
 have HB := am (Below.refl w.heap.size w)
 have H : (spec_l8Twice.l0 k l0 a1 (([] : List ByteArray)) (wrap64 (a1 + 1)) 0) = some r := h
 clear h
 obtain ⟨y303, hy303⟩ : ∃ y_ : List ByteArray, y_ = (([] : List ByteArray)) := ⟨_, rfl⟩
 replace H : (spec_l8Twice.l0 k l0 a1 y303 (wrap64 (a1 + 1)) 0) = some r := by first | (rw [hy303]; with_reducible exact H) | (have H2_ := (Option.bind_some _ _).symm.trans H; rw [hy303]; with_reducible exact H2_) | (have H2_ := (Option.bind_some _ _).symm.trans H; with_reducible exact H2_) | with_reducible exact H | (rw [hy303]; exact H) | exact H
 have Ny303 := am hy303; clear hy303
 have H' := am H
 clear H
 go_enter Tryd.func82, Tryd.ntmps82
 go_wp2_with (first | ((with_reducible refine gate_dst (N := 9) rfl ?_); refine Kd.R_lit Kd.string _ 9 ?hg (N := 9) ?hd (xs := ([] : List ByteArray)) (inner := []) (ok := fun _ => True) (okp := fun _ => True) ?hr ?hp (fun _ hk => hk) trivial (Below.refl _ _) (Nat.le_refl _) (by simp) ?_; (case hd => rfl); (case hg => rfl); (case hr => first | (go_simp; done) | (go_simp; rfl)); (case hp => exact (Reps.none _ _)); intro v304 w3 ho4 hb hg_ hnew_; clear hg_ hnew_; (first | rw [← Ny303.out] at ho4 | (simp only [Int.reduceToNat] at ho4; rw [← Ny303.out] at ho4)); have n_ := t2 (rL ho4 (bs_ pB)) (bz_ pB hb); clear HB; obtain ⟨HO305, HB⟩ := n_; clear hb ho4))
 repeat (go_quiet (first | ((with_reducible refine gate_dst (N := 9) rfl ?_); refine Kd.R_lit Kd.string _ 9 ?hg (N := 9) ?hd (xs := ([] : List ByteArray)) (inner := []) (ok := fun _ => True) (okp := fun _ => True) ?hr ?hp (fun _ hk => hk) trivial (Below.refl _ _) (Nat.le_refl _) (by simp) ?_; (case hd => rfl); (case hg => rfl); (case hr => first | (go_simp; done) | (go_simp; rfl)); (case hp => exact (Reps.none _ _)); intro v304 w3 ho4 hb hg_ hnew_; clear hg_ hnew_; (first | rw [← Ny303.out] at ho4 | (simp only [Int.reduceToNat] at ho4; rw [← Ny303.out] at ho4)); have n_ := t2 (rL ho4 (bs_ pB)) (bz_ pB hb); clear HB; obtain ⟨HO305, HB⟩ := n_; clear hb ho4)); try go_wp2_with (first | ((with_reducible refine gate_dst (N := 9) rfl ?_); refine Kd.R_lit Kd.string _ 9 ?hg (N := 9) ?hd (xs := ([] : List ByteArray)) (inner := []) (ok := fun _ => True) (okp := fun _ => True) ?hr ?hp (fun _ hk => hk) trivial (Below.refl _ _) (Nat.le_refl _) (by simp) ?_; (case hd => rfl); (case hg => rfl); (case hr => first | (go_simp; done) | (go_simp; rfl)); (case hp => exact (Reps.none _ _)); intro v304 w3 ho4 hb hg_ hnew_; clear hg_ hnew_; (first | rw [← Ny303.out] at ho4 | (simp only [Int.reduceToNat] at ho4; rw [← Ny303.out] at ho4)); have n_ := t2 (rL ho4 (bs_ pB)) (bz_ pB hb); clear HB; obtain ⟨HO305, HB⟩ := n_; clear hb ho4)))
 go_loopg [5, 6, 7] k (fun kq v5 v6 v7 w' => ∃ (x5_1 : List ByteArray) (x6_1 : Int) (x7_1 : Int), v6 = .int .i64 x6_1 ∧ v7 = .int .i64 x7_1 ∧ Aside0 (spec_l8Twice.l0 kq l0 a1 x5_1 x6_1 x7_1 = some r) ∧ Aside0 (kq ≤ k) ∧ Aside0 (Kd.R Kd.string 9 w' w.heap.size (fun _ => True) v5 x5_1) ∧ Aside0 (Below w.heap.size w w'))
 case atStart => exact ⟨(y303), (wrap64 (a1 + 1)), (0), pF, pF, H', ⟨Nat.le_refl _⟩, ⟨(pR HO305)⟩, ⟨pB⟩⟩
 case round =>
  clear H'
  obtain ⟨x5_1, x6_1, x7_1, rfl, rfl, HA, HK1, HO_5, HB⟩ := hrel
  cases gk with
  | zero => exact absurd HA.out (by simp [spec_l8Twice.l0])
  | succ k1 =>
   have H := HA.out
   clear HA
   simp only [spec_l8Twice.l0] at H
   by_cases c5 : 0 ≤ a1
   · rw [if_pos c5] at H
     have c5b0 : decide (0 ≤ a1) = true := dt c5
     clear c5
     by_cases c6 : a1 < (l0.length : Int)
     · rw [if_pos c6] at H
       have c6b0 : decide (a1 < (l0.length : Int)) = true := dt c6
       clear c6
       by_cases c7 : x7_1 < ((rd_T81 l0 a1).f1)
       · rw [if_pos c7] at H
         have c7b0 : decide (x7_1 < ((rd_T81 l0 a1).f1)) = true := dt c7
         clear c7
         have H' := am H
         clear H
         have p306 : 0 ≤ (a1 : Int) := pD
         have q306 : a1 < (l0.length : Int) := pD
         obtain ⟨ad306, e306, hx306_0, hx306_1, hx306_2⟩ := at_T81 HR0.out a1 p306 q306
         cases e306; replace hx306_0 := cb HB hx306_0; replace hx306_1 := cb HB hx306_1; replace hx306_2 := cb HB hx306_2; replace p306 := eq_true p306; replace q306 := eq_true q306
         go_wp2
         repeat (go_quiet (fail); try go_wp2)
         go_loopg [8] k1 (fun kq v8 w' => ∃ (x8_2 : Int), v8 = .int .i64 x8_2 ∧ Aside0 (spec_l8Twice.l1 kq l0 a1 x5_1 x6_1 x7_1 x8_2 = some r) ∧ Aside0 (kq ≤ k1) ∧ Aside0 (Kd.R Kd.string 9 w' w.heap.size (fun _ => True) u5 x5_1) ∧ Aside0 (Below w.heap.size w w'))
         case atStart => exact ⟨(0), pF, H', ⟨Nat.le_refl _⟩, ⟨(pR HO_5)⟩, ⟨pB⟩⟩
         case round =>
          clear H'
          (try clear c5); (try clear c5b0); (try clear c6); (try clear c6b0); (try clear c7); (try clear c7b0); (try clear hx306_0); (try clear hx306_1); (try clear hx306_2); (try clear p306); (try clear q306)
          obtain ⟨x8_2, rfl, HA, HK2, HO_5, HB⟩ := hrel
          cases gk with
          | zero => exact absurd HA.out (by simp [spec_l8Twice.l1])
          | succ k2 =>
           have H := HA.out
           clear HA
           simp only [spec_l8Twice.l1] at H
           by_cases c8 : x8_2 < (x5_1.length : Int)
           · rw [if_pos c8] at H
             have c8b0 : decide (x8_2 < (x5_1.length : Int)) = true := dt c8
             clear c8
             by_cases c9 : 0 ≤ x8_2
             · rw [if_pos c9] at H
               have c9b0 : decide (0 ≤ x8_2) = true := dt c9
               clear c9
               by_cases c10 : 0 ≤ x6_1
               · rw [if_pos c10] at H
                 have c10b0 : decide (0 ≤ x6_1) = true := dt c10
                 clear c10
                 by_cases c11 : x6_1 < (l0.length : Int)
                 · rw [if_pos c11] at H
                   have c11b0 : decide (x6_1 < (l0.length : Int)) = true := dt c11
                   clear c11
                   by_cases c12 : (rdOf ByteArray.empty x5_1 x8_2).toList = ((rd_T81 l0 x6_1).f2).toList
                   · rw [if_pos c12] at H
                     have c12b0 : ((rdOf ByteArray.empty x5_1 x8_2).toList == ((rd_T81 l0 x6_1).f2).toList) = true := beq_iff_eq.mpr c12
                     have c12b1 : ((rdOf ByteArray.empty x5_1 x8_2).toList != ((rd_T81 l0 x6_1).f2).toList) = false := bne_eq_false_iff_eq.mpr c12
                     clear c12
                     obtain rfl := sj H
                     obtain ⟨Ao13, co13, eo13⟩ := rS HO_5.out
                     subst eo13
                     have p307 : 0 ≤ (x8_2 : Int) := pD
                     have q307 : x8_2 < (x5_1.length : Int) := pD
                     obtain ⟨ad307, e307, hx307_0⟩ := Kd.at_string (rr HO_5.out).2.2 x8_2 p307 q307
                     cases e307; replace p307 := eq_true p307; replace q307 := eq_true q307
                     have p308 : 0 ≤ (x6_1 : Int) := pD
                     have q308 : x6_1 < (l0.length : Int) := pD
                     obtain ⟨ad308, e308, hx308_0, hx308_1, hx308_2⟩ := at_T81 HR0.out x6_1 p308 q308
                     obtain rfl : ad306 = ad308 := (by injection e308)
                     replace hx308_0 := cb HB hx308_0; replace hx308_1 := cb HB hx308_1; replace hx308_2 := cb HB hx308_2; replace p308 := eq_true p308; replace q308 := eq_true q308
                     go_wp2
                     repeat (go_quiet (fail); try go_wp2)
                     go_ret
                     exact ⟨pE, pB⟩
                   · rw [if_neg c12] at H
                     have c12b0 : ((rdOf ByteArray.empty x5_1 x8_2).toList == ((rd_T81 l0 x6_1).f2).toList) = false := beq_eq_false_iff_ne.mpr c12
                     have c12b1 : ((rdOf ByteArray.empty x5_1 x8_2).toList != ((rd_T81 l0 x6_1).f2).toList) = true := bne_iff_ne.mpr c12
                     have H' := am H
                     clear H
                     obtain ⟨Ao14, co14, eo14⟩ := rS HO_5.out
                     subst eo14
                     have p307 : 0 ≤ (x8_2 : Int) := pD
                     have q307 : x8_2 < (x5_1.length : Int) := pD
                     obtain ⟨ad307, e307, hx307_0⟩ := Kd.at_string (rr HO_5.out).2.2 x8_2 p307 q307
                     cases e307; replace p307 := eq_true p307; replace q307 := eq_true q307
                     have p308 : 0 ≤ (x6_1 : Int) := pD
                     have q308 : x6_1 < (l0.length : Int) := pD
                     obtain ⟨ad308, e308, hx308_0, hx308_1, hx308_2⟩ := at_T81 HR0.out x6_1 p308 q308
                     obtain rfl : ad306 = ad308 := (by injection e308)
                     replace hx308_0 := cb HB hx308_0; replace hx308_1 := cb HB hx308_1; replace hx308_2 := cb HB hx308_2; replace p308 := eq_true p308; replace q308 := eq_true q308
                     go_wp2
                     repeat (go_quiet (fail); try go_wp2)
                     go_roundg k2
                     case measure => have := HK1.out; have := HK2.out; omega
                     case rel => exact ⟨(wrap64 (x8_2 + 1)), pF, H', ⟨by have := HK1.out; have := HK2.out; omega⟩, ⟨(pR HO_5)⟩, ⟨pB⟩⟩
                 · rw [if_neg c11] at H
                   exact absurd H (by simp)
               · rw [if_neg c10] at H
                 exact absurd H (by simp)
             · rw [if_neg c9] at H
               exact absurd H (by simp)
           · rw [if_neg c8] at H
             have c8b0 : decide (x8_2 < (x5_1.length : Int)) = false := decide_eq_false c8
             clear c8
             by_cases c15 : 0 ≤ x6_1
             · rw [if_pos c15] at H
               have c15b0 : decide (0 ≤ x6_1) = true := dt c15
               clear c15
               by_cases c16 : x6_1 < (l0.length : Int)
               · rw [if_pos c16] at H
                 have c16b0 : decide (x6_1 < (l0.length : Int)) = true := dt c16
                 clear c16
                 by_cases c17 : x5_1.length < 8796093022208
                 · rw [if_pos c17] at H
                   have LMc17 := am c17; clear c17
                   obtain ⟨y310, hy310⟩ : ∃ y_ : List ByteArray, y_ = (x5_1 ++ [(rd_T81 l0 x6_1).f2]) := ⟨_, rfl⟩
                   replace H : ((spec_l8End.f k2 l0 (wrap64 (x6_1 + 1))).bind fun t313 => (spec_l8Twice.l0 k2 l0 a1 y310 t313 (wrap64 (x7_1 + 1)))) = some r := by first | (rw [hy310]; with_reducible exact H) | (have H2_ := (Option.bind_some _ _).symm.trans H; rw [hy310]; with_reducible exact H2_) | (have H2_ := (Option.bind_some _ _).symm.trans H; with_reducible exact H2_) | with_reducible exact H | (rw [hy310]; exact H) | exact H
                   have Ny310 := am hy310; clear hy310
                   obtain ⟨t313, A180, H⟩ := bO H
                   replace H : (spec_l8Twice.l0 k2 l0 a1 y310 t313 (wrap64 (x7_1 + 1))) = some r := H
                   have A18 := am A180; clear A180
                   have H' := am H
                   clear H
                   obtain ⟨Ao19, co19, eo19⟩ := rS HO_5.out
                   subst eo19
                   have p309 : 0 ≤ (x6_1 : Int) := pD
                   have q309 : x6_1 < (l0.length : Int) := pD
                   obtain ⟨ad309, e309, hx309_0, hx309_1, hx309_2⟩ := at_T81 HR0.out x6_1 p309 q309
                   obtain rfl : ad306 = ad309 := (by injection e309)
                   replace hx309_0 := cb HB hx309_0; replace hx309_1 := cb HB hx309_1; replace hx309_2 := cb HB hx309_2; replace p309 := eq_true p309; replace q309 := eq_true q309
                   go_wp2_with (first | ((with_reducible refine gB (b := .append) (xs := #[.tmp 37, .tmp 43]) rfl ?_); at_builtin; refine Kd.R_append Kd.string (w0 := w) w.heap.size rfl (.tmp 37) (.tmp 43) 22 9 (.string ⟨#[]⟩) 16 rfl Tryd.underlying22 info9 rfl (by decide) (by omega) (.slice Ao19 x5_1.length co19) x5_1 ((rd_T81 l0 x6_1).f2) [.string ((rd_T81 l0 x6_1).f2)] (fun _ => True) (fun _ => False) rfl rfl ?aP (fun _ hk => hk.elim) ?aF ?aO ?aB ?aS ?aL ?_; (case aP => exact rfl); (case aB => exact pB); (case aF => exact (fun _ _ => trivial)); (case aO => exact (pR HO_5)); (case aS => exact (bs_ pB)); (case aL => have := LMc17.out; omega); intro v311 w20 ho hb hg hat; rw [← Ny310.out] at ho; have n_ := t2 (hb) (ho); clear HB HO_5; obtain ⟨HB, HO312⟩ := n_; clear ho hb hg hat) | (go_at_call 81; (with_reducible refine (spec_l8End.calls k2 _ _ l0 (wrap64 (x6_1 + 1)) t313 _ ?side1 ?side2 A18.out).mono ?_); (case side1 => exact pC (Kd.C_below HR0.out HB.out)); (case side2 => exact HC0.out); rintro e w21 ⟨rfl, hb⟩; have n_ := t2 (Kd.R_below (pR HO312) hb) (bz_ pB hb); clear HO312 HB; obtain ⟨HO312, HB⟩ := n_; (try clear hb)))
                   repeat (go_quiet (first | ((with_reducible refine gB (b := .append) (xs := #[.tmp 37, .tmp 43]) rfl ?_); at_builtin; refine Kd.R_append Kd.string (w0 := w) w.heap.size rfl (.tmp 37) (.tmp 43) 22 9 (.string ⟨#[]⟩) 16 rfl Tryd.underlying22 info9 rfl (by decide) (by omega) (.slice Ao19 x5_1.length co19) x5_1 ((rd_T81 l0 x6_1).f2) [.string ((rd_T81 l0 x6_1).f2)] (fun _ => True) (fun _ => False) rfl rfl ?aP (fun _ hk => hk.elim) ?aF ?aO ?aB ?aS ?aL ?_; (case aP => exact rfl); (case aB => exact pB); (case aF => exact (fun _ _ => trivial)); (case aO => exact (pR HO_5)); (case aS => exact (bs_ pB)); (case aL => have := LMc17.out; omega); intro v311 w20 ho hb hg hat; rw [← Ny310.out] at ho; have n_ := t2 (hb) (ho); clear HB HO_5; obtain ⟨HB, HO312⟩ := n_; clear ho hb hg hat) | (go_at_call 81; (with_reducible refine (spec_l8End.calls k2 _ _ l0 (wrap64 (x6_1 + 1)) t313 _ ?side1 ?side2 A18.out).mono ?_); (case side1 => exact pC (Kd.C_below HR0.out HB.out)); (case side2 => exact HC0.out); rintro e w21 ⟨rfl, hb⟩; have n_ := t2 (Kd.R_below (pR HO312) hb) (bz_ pB hb); clear HO312 HB; obtain ⟨HO312, HB⟩ := n_; (try clear hb))); try go_wp2_with (first | ((with_reducible refine gB (b := .append) (xs := #[.tmp 37, .tmp 43]) rfl ?_); at_builtin; refine Kd.R_append Kd.string (w0 := w) w.heap.size rfl (.tmp 37) (.tmp 43) 22 9 (.string ⟨#[]⟩) 16 rfl Tryd.underlying22 info9 rfl (by decide) (by omega) (.slice Ao19 x5_1.length co19) x5_1 ((rd_T81 l0 x6_1).f2) [.string ((rd_T81 l0 x6_1).f2)] (fun _ => True) (fun _ => False) rfl rfl ?aP (fun _ hk => hk.elim) ?aF ?aO ?aB ?aS ?aL ?_; (case aP => exact rfl); (case aB => exact pB); (case aF => exact (fun _ _ => trivial)); (case aO => exact (pR HO_5)); (case aS => exact (bs_ pB)); (case aL => have := LMc17.out; omega); intro v311 w20 ho hb hg hat; rw [← Ny310.out] at ho; have n_ := t2 (hb) (ho); clear HB HO_5; obtain ⟨HB, HO312⟩ := n_; clear ho hb hg hat) | (go_at_call 81; (with_reducible refine (spec_l8End.calls k2 _ _ l0 (wrap64 (x6_1 + 1)) t313 _ ?side1 ?side2 A18.out).mono ?_); (case side1 => exact pC (Kd.C_below HR0.out HB.out)); (case side2 => exact HC0.out); rintro e w21 ⟨rfl, hb⟩; have n_ := t2 (Kd.R_below (pR HO312) hb) (bz_ pB hb); clear HO312 HB; obtain ⟨HO312, HB⟩ := n_; (try clear hb))))
                   go_roundg k2
                   case measure => have := HK1.out; have := HK2.out; omega
                   case rel => exact ⟨(y310), (t313), (wrap64 (x7_1 + 1)), pF, pF, H', ⟨by have := HK1.out; have := HK2.out; omega⟩, ⟨(pR HO312)⟩, ⟨pB⟩⟩
                 · rw [if_neg c17] at H
                   exact absurd H (by simp)
               · rw [if_neg c16] at H
                 exact absurd H (by simp)
             · rw [if_neg c15] at H
               exact absurd H (by simp)
       · rw [if_neg c7] at H
         have c7b0 : decide (x7_1 < ((rd_T81 l0 a1).f1)) = false := decide_eq_false c7
         clear c7
         obtain rfl := sj H
         have p306 : 0 ≤ (a1 : Int) := pD
         have q306 : a1 < (l0.length : Int) := pD
         obtain ⟨ad306, e306, hx306_0, hx306_1, hx306_2⟩ := at_T81 HR0.out a1 p306 q306
         cases e306; replace hx306_0 := cb HB hx306_0; replace hx306_1 := cb HB hx306_1; replace hx306_2 := cb HB hx306_2; replace p306 := eq_true p306; replace q306 := eq_true q306
         go_wp2
         repeat (go_quiet (fail); try go_wp2)
         go_ret
         exact ⟨pE, pB⟩
     · rw [if_neg c6] at H
       exact absurd H (by simp)
   · rw [if_neg c5] at H
     exact absurd H (by simp)
def spec_l1Max.f (a0 : Int) (a1 : Int) : Option (Int) := if a0 > a1 then (some a0) else (some a1)
theorem spec_l1Max.calls (a0 : Int) (a1 : Int) (r : Int) (w : World) (h : spec_l1Max.f a0 a1 = some r) :
 Calls Tryd.prog 101 #[.int .i64 a0, .int .i64 a1] w fun e w' => e = .returned (.int .i64 r) ∧ Drawn0 w w' := by
 have H : (if a0 > a1 then (some a0) else (some a1)) = some r := h
 clear h
 by_cases c3 : a0 > a1
 · rw [if_pos c3] at H
   have c3b0 : decide (a1 < a0) = true := dt c3
   clear c3
   obtain rfl := sj H
   go_enter Tryd.func101, Tryd.ntmps101
   go_wp2
   go_ret
   exact ⟨by first | rfl | (simp; done) | (simp [*]; done), pW⟩
 · rw [if_neg c3] at H
   have c3b0 : decide (a1 < a0) = false := decide_eq_false c3
   clear c3
   obtain rfl := sj H
   go_enter Tryd.func101, Tryd.ntmps101
   go_wp2
   go_ret
   exact ⟨by first | rfl | (simp; done) | (simp [*]; done), pW⟩
mutual
def spec_l8Deep.l0 : Nat → List (S81) → Int → Int → Int → Int → Int → ByteArray → Option (Int)
 | 0, _, _, _, _, _, _, _ => none
 | k + 1, x0, x6, x7, x8, x316000, x316001, x316002 => if x8 < x316001 then (if x316000 = 5 then (spec_l8Deep.j1 k x0 x6 x7 x8 true x316000 x316001 x316002) else (spec_l8Deep.j1 k x0 x6 x7 x8 (x316000 == 6) x316000 x316001 x316002)) else (spec_l8Deep.j1 k x0 x6 x7 x8 false x316000 x316001 x316002)
def spec_l8Deep.j1 : Nat → List (S81) → Int → Int → Int → Bool → Int → Int → ByteArray → Option (Int)
 | 0, _, _, _, _, _, _, _, _ => none
 | k + 1, x0, x6, x7, x8, x28, x316000, x316001, x316002 => if x28 = true then (if x316000 = 6 then ((spec_l8Deep.f k x0 (wrap64 (x7 + 1))).bind fun t316 => ((spec_l1Max.f x6 (wrap64 (1 + t316))).bind fun t317 => ((spec_l8End.f k x0 (wrap64 (x7 + 1))).bind fun t318 => (spec_l8Deep.l0 k x0 t317 t318 (wrap64 (x8 + 1)) x316000 x316001 x316002)))) else ((spec_l8Deep.f k x0 x7).bind fun t319 => ((spec_l1Max.f x6 (wrap64 (1 + t319))).bind fun t320 => ((spec_l8End.f k x0 x7).bind fun t321 => (spec_l8Deep.l0 k x0 t320 t321 (wrap64 (x8 + 1)) x316000 x316001 x316002))))) else (some x6)
def spec_l8Deep.f : Nat → List (S81) → Int → Option (Int)
 | 0, _, _ => none
 | k + 1, l0, a1 => if 0 ≤ a1 then (if a1 < (l0.length : Int) then (spec_l8Deep.l0 k l0 0 (wrap64 (a1 + 1)) 0 ((rd_T81 l0 a1).f0) ((rd_T81 l0 a1).f1) ((rd_T81 l0 a1).f2)) else (none)) else (none)
end
theorem spec_l8Deep.mono_l : ∀ k, (∀ y0 y1, LeO (spec_l8Deep.f k y0 y1) (spec_l8Deep.f (k + 1) y0 y1)) ∧ (∀ y0 y1 y2 y3 y4 y5 y6, LeO (spec_l8Deep.l0 k y0 y1 y2 y3 y4 y5 y6) (spec_l8Deep.l0 (k + 1) y0 y1 y2 y3 y4 y5 y6)) ∧ (∀ y0 y1 y2 y3 y4 y5 y6 y7, LeO (spec_l8Deep.j1 k y0 y1 y2 y3 y4 y5 y6 y7) (spec_l8Deep.j1 (k + 1) y0 y1 y2 y3 y4 y5 y6 y7))
 | 0 => ⟨fun _ _ r h => by simp [spec_l8Deep.f] at h, fun _ _ _ _ _ _ _ r h => by simp [spec_l8Deep.l0] at h, fun _ _ _ _ _ _ _ _ r h => by simp [spec_l8Deep.j1] at h⟩
 | k + 1 => by
  obtain ⟨ih0, ih1, ih2⟩ := spec_l8Deep.mono_l k
  refine ⟨?_, ?_, ?_⟩
  · intro y0 y1
    unfold spec_l8Deep.f
    repeat' with_reducible first | exact ih0 _ _ | exact ih1 _ _ _ _ _ _ _ | exact ih2 _ _ _ _ _ _ _ _ | exact spec_l8End.mono _ _ _ | exact LeO.refl _ | exact LeO.none _ | refine LeO.ite ?_ ?_ | refine LeO.bind ?_ (fun _ => ?_)
  · intro y0 y1 y2 y3 y4 y5 y6
    unfold spec_l8Deep.l0
    repeat' with_reducible first | exact ih0 _ _ | exact ih1 _ _ _ _ _ _ _ | exact ih2 _ _ _ _ _ _ _ _ | exact spec_l8End.mono _ _ _ | exact LeO.refl _ | exact LeO.none _ | refine LeO.ite ?_ ?_ | refine LeO.bind ?_ (fun _ => ?_)
  · intro y0 y1 y2 y3 y4 y5 y6 y7
    unfold spec_l8Deep.j1
    repeat' with_reducible first | exact ih0 _ _ | exact ih1 _ _ _ _ _ _ _ | exact ih2 _ _ _ _ _ _ _ _ | exact spec_l8End.mono _ _ _ | exact LeO.refl _ | exact LeO.none _ | refine LeO.ite ?_ ?_ | refine LeO.bind ?_ (fun _ => ?_)
theorem spec_l8Deep.mono : ∀ a0 a1 k, LeO (spec_l8Deep.f k a0 a1) (spec_l8Deep.f (k + 1) a0 a1) := by
 intro a0 a1 k
 obtain ⟨ih0, ih1, ih2⟩ := spec_l8Deep.mono_l k
 exact ih0 a0 a1
theorem spec_l8Deep.calls (k : Nat) : ∀ (A0 : Option Addr) (c0 : Nat) (l0 : List (S81)) (a1 : Int) (r : Int) (w : World) (hr0 : Kd.C k81 w A0 l0.length l0) (hc0 : l0.length ≤ c0) (h : spec_l8Deep.f k l0 a1 = some r),
 Calls Tryd.prog 83 #[.slice A0 l0.length c0, .int .i64 a1] w fun e w' => e = .returned (.int .i64 r) ∧ Below w.heap.size w w' := by
 induction k using Nat.strongRecOn with
 | _ k ih =>
 intro A0 c0 l0 a1 r w hr0 hc0 h
 cases k with
 | zero => exact absurd h (by simp [spec_l8Deep.f])
 | succ k =>
 simp only [spec_l8Deep.f] at h
 have hu81 := Tryd.underlying81
 have HR0 := am hr0; have HC0 := am hc0; clear hr0 hc0
 have HB := am (Below.refl w.heap.size w)
 have H : (if 0 ≤ a1 then (if a1 < (l0.length : Int) then (spec_l8Deep.l0 k l0 0 (wrap64 (a1 + 1)) 0 ((rd_T81 l0 a1).f0) ((rd_T81 l0 a1).f1) ((rd_T81 l0 a1).f2)) else (none)) else (none)) = some r := h
 clear h
 by_cases c3 : 0 ≤ a1
 · rw [if_pos c3] at H
   have c3b0 : decide (0 ≤ a1) = true := dt c3
   clear c3
   by_cases c4 : a1 < (l0.length : Int)
   · rw [if_pos c4] at H
     have c4b0 : decide (a1 < (l0.length : Int)) = true := dt c4
     clear c4
     have H' := am H
     clear H
     have p314 : 0 ≤ (a1 : Int) := pD
     have q314 : a1 < (l0.length : Int) := pD
     obtain ⟨ad314, e314, hx314_0, hx314_1, hx314_2⟩ := at_T81 HR0.out a1 p314 q314
     cases e314; replace p314 := eq_true p314; replace q314 := eq_true q314
     go_enter Tryd.func83, Tryd.ntmps83
     go_wp2_with (first | ((with_reducible refine gate_dst (N := 5) rfl ?_); refine box_event ?hg (N := 5) ?hd (cs := #[.int .i64 0, .int .i64 0, .string (⟨#[]⟩ : ByteArray)]) (t := 81) ?hr ?_; (case hd => rfl); (case hg => rfl); (case hr => first | (go_simp; done) | (go_simp; rfl)); intro gb315 hg w5 hbox hb; have n_ := t4 (bz_ pB hb) (hbox) ((by rw [hg]; exact (bs_ pB) : w.heap.size ≤ gb315)) ((by rw [hg]; exact (bs_ pB) : w.heap.size ≤ gb315)); clear HB; obtain ⟨HB, BK315, GW315, GE315⟩ := n_; clear hb hbox hg; have hcz6_0 : w5.cell? ⟨gb315, 0, none⟩ = some (.int .i64 0) := (blk_cell BK315.out 0).trans rfl; have hcz6_1 : w5.cell? ⟨gb315, 1, none⟩ = some (.int .i64 0) := (blk_cell BK315.out 1).trans rfl; have hcz6_2 : w5.cell? ⟨gb315, 2, none⟩ = some (.string (⟨#[]⟩ : ByteArray)) := (blk_cell BK315.out 2).trans rfl; have hfz6_0 := blk_frozen BK315.out 0; have hfz6_1 := blk_frozen BK315.out 1; have hfz6_2 := blk_frozen BK315.out 2))
     go_loopg [6, 7, 8] k (fun kq v6 v7 v8 w' => ∃ (x6_1 : Int) (x7_1 : Int) (x8_1 : Int), v6 = .int .i64 x6_1 ∧ v7 = .int .i64 x7_1 ∧ v8 = .int .i64 x8_1 ∧ Aside0 (spec_l8Deep.l0 kq l0 x6_1 x7_1 x8_1 ((rd_T81 l0 a1).f0) ((rd_T81 l0 a1).f1) ((rd_T81 l0 a1).f2) = some r) ∧ Aside0 (kq ≤ k) ∧ Aside0 (w'.heap[gb315]? = some (.cells #[.int .i64 ((rd_T81 l0 a1).f0), .int .i64 ((rd_T81 l0 a1).f1), .string ((rd_T81 l0 a1).f2)] 81 (0, 0))) ∧ Aside0 (Below w.heap.size w w'))
     case atStart => exact ⟨(0), (wrap64 (a1 + 1)), (0), pF, pF, pF, H', ⟨Nat.le_refl _⟩, ⟨by (with_reducible repeat (first | refine blk_drewN ?_ _ | refine blk_drew ?_ | refine blk_alloc ?_ _)); refine blk_put (cs := #[.int .i64 ((rd_T81 l0 a1).f0), .int .i64 ((rd_T81 l0 a1).f1), .string (⟨#[]⟩ : ByteArray)]) ?_ 2 _ rfl; (with_reducible repeat (first | refine blk_drewN ?_ _ | refine blk_drew ?_ | refine blk_alloc ?_ _)); refine blk_put (cs := #[.int .i64 ((rd_T81 l0 a1).f0), .int .i64 0, .string (⟨#[]⟩ : ByteArray)]) ?_ 1 _ rfl; (with_reducible repeat (first | refine blk_drewN ?_ _ | refine blk_drew ?_ | refine blk_alloc ?_ _)); refine blk_put (cs := #[.int .i64 0, .int .i64 0, .string (⟨#[]⟩ : ByteArray)]) ?_ 0 _ rfl; (with_reducible repeat (first | refine blk_drewN ?_ _ | refine blk_drew ?_ | refine blk_alloc ?_ _)); exact BK315.out⟩, ⟨pB⟩⟩
     case round =>
      clear H'
      (try clear c3); (try clear c3b0); (try clear c4); (try clear c4b0); (try clear hcz6_0); (try clear hcz6_1); (try clear hcz6_2); (try clear hfz6_0); (try clear hfz6_1); (try clear hfz6_2); (try clear hx314_0); (try clear hx314_1); (try clear hx314_2); (try clear p314); (try clear q314)
      obtain ⟨x6_1, x7_1, x8_1, rfl, rfl, rfl, HA, HK1, BK315, HB⟩ := hrel
      cases gk with
      | zero => exact absurd HA.out (by simp [spec_l8Deep.l0])
      | succ k1 =>
       have H := HA.out
       clear HA
       simp only [spec_l8Deep.l0] at H
       have HC7 := am H; clear H
       go_upto_region 5 with (fail)
       go_cut [28] (fun v28 wc => ∃ (kq : Nat) (x28_6 : Bool), v28 = .bool x28_6 ∧ Aside0 (spec_l8Deep.j1 kq l0 x6_1 x7_1 x8_1 x28_6 ((rd_T81 l0 a1).f0) ((rd_T81 l0 a1).f1) ((rd_T81 l0 a1).f2) = some r) ∧ Aside0 (kq ≤ k1) ∧ Aside0 (wc.heap[gb315]? = some (.cells #[.int .i64 ((rd_T81 l0 a1).f0), .int .i64 ((rd_T81 l0 a1).f1), .string ((rd_T81 l0 a1).f2)] 81 (0, 0))) ∧ Aside0 (Below w.heap.size w wc))
       case first =>
        have H := HC7.out
        clear HC7
        by_cases c8 : x8_1 < ((rd_T81 l0 a1).f1)
        · rw [if_pos c8] at H
          have c8b0 : decide (x8_1 < ((rd_T81 l0 a1).f1)) = true := dt c8
          clear c8
          (first | rw [c8b0] | (simp only [i64_w, i32_w]; rw [c8b0]) | skip)
          by_cases c9 : ((rd_T81 l0 a1).f0) = 5
          · rw [if_pos c9] at H
            have c9b0 : (((rd_T81 l0 a1).f0) == 5) = true := beq_iff_eq.mpr c9
            have c9b1 : (((rd_T81 l0 a1).f0) != 5) = false := bne_eq_false_iff_eq.mpr c9
            clear c9
            have H' := am H
            clear H
            obtain ⟨hcz10_0, hcz10_1, hcz10_2, hfz10_0, hfz10_1, hfz10_2⟩ := bx3 BK315
            go_wp2
            go_meet
            case rel => exact ⟨_, (true), pF, H', ⟨by have := HK1.out; first | omega | exact Nat.le_refl _⟩, ⟨(pK BK315)⟩, ⟨pB⟩⟩
          · rw [if_neg c9] at H
            have c9b0 : (((rd_T81 l0 a1).f0) == 5) = false := beq_eq_false_iff_ne.mpr c9
            have c9b1 : (((rd_T81 l0 a1).f0) != 5) = true := bne_iff_ne.mpr c9
            have H' := am H
            clear H
            obtain ⟨hcz11_0, hcz11_1, hcz11_2, hfz11_0, hfz11_1, hfz11_2⟩ := bx3 BK315
            go_wp2
            go_meet
            case rel => exact ⟨_, ((((rd_T81 l0 a1).f0) == 6)), pF, H', ⟨by have := HK1.out; first | omega | exact Nat.le_refl _⟩, ⟨(pK BK315)⟩, ⟨pB⟩⟩
        · rw [if_neg c8] at H
          have c8b0 : decide (x8_1 < ((rd_T81 l0 a1).f1)) = false := decide_eq_false c8
          clear c8
          (first | rw [c8b0] | (simp only [i64_w, i32_w]; rw [c8b0]) | skip)
          have H' := am H
          clear H
          obtain ⟨hcz12_0, hcz12_1, hcz12_2, hfz12_0, hfz12_1, hfz12_2⟩ := bx3 BK315
          go_wp2
          go_meet
          case rel => exact ⟨_, (false), pF, H', ⟨by have := HK1.out; first | omega | exact Nat.le_refl _⟩, ⟨(pK BK315)⟩, ⟨pB⟩⟩
       case rest =>
        clear HC7; (try clear c3); (try clear c3b0); (try clear c4); (try clear c4b0); (try clear hcz6_0); (try clear hcz6_1); (try clear hcz6_2); (try clear hfz6_0); (try clear hfz6_1); (try clear hfz6_2); (try clear hx314_0); (try clear hx314_1); (try clear hx314_2); (try clear p314); (try clear q314)
        obtain ⟨kq, x28_6, rfl, HA, HJ6, BK315, HB⟩ := hcut
        cases kq with
        | zero => exact absurd HA.out (by simp [spec_l8Deep.j1])
        | succ kj6 =>
         have H := HA.out
         clear HA
         simp only [spec_l8Deep.j1] at H
         by_cases c13 : x28_6 = true
         · subst c13
           have H1 : (if ((rd_T81 l0 a1).f0) = 6 then ((spec_l8Deep.f kj6 l0 (wrap64 (x7_1 + 1))).bind fun t316 => ((spec_l1Max.f x6_1 (wrap64 (1 + t316))).bind fun t317 => ((spec_l8End.f kj6 l0 (wrap64 (x7_1 + 1))).bind fun t318 => (spec_l8Deep.l0 kj6 l0 t317 t318 (wrap64 (x8_1 + 1)) ((rd_T81 l0 a1).f0) ((rd_T81 l0 a1).f1) ((rd_T81 l0 a1).f2))))) else ((spec_l8Deep.f kj6 l0 x7_1).bind fun t319 => ((spec_l1Max.f x6_1 (wrap64 (1 + t319))).bind fun t320 => ((spec_l8End.f kj6 l0 x7_1).bind fun t321 => (spec_l8Deep.l0 kj6 l0 t320 t321 (wrap64 (x8_1 + 1)) ((rd_T81 l0 a1).f0) ((rd_T81 l0 a1).f1) ((rd_T81 l0 a1).f2)))))) = some r := by rw [if_pos rfl] at H; exact H
           clear H; have H := H1; clear H1
           by_cases c14 : ((rd_T81 l0 a1).f0) = 6
           · rw [if_pos c14] at H
             have c14b0 : (((rd_T81 l0 a1).f0) == 6) = true := beq_iff_eq.mpr c14
             have c14b1 : (((rd_T81 l0 a1).f0) != 6) = false := bne_eq_false_iff_eq.mpr c14
             clear c14
             obtain ⟨t316, A150, H⟩ := bO H
             replace H : ((spec_l1Max.f x6_1 (wrap64 (1 + t316))).bind fun t317 => ((spec_l8End.f kj6 l0 (wrap64 (x7_1 + 1))).bind fun t318 => (spec_l8Deep.l0 kj6 l0 t317 t318 (wrap64 (x8_1 + 1)) ((rd_T81 l0 a1).f0) ((rd_T81 l0 a1).f1) ((rd_T81 l0 a1).f2)))) = some r := H
             have A15 := am A150; clear A150
             obtain ⟨t317, A160, H⟩ := bO H
             replace H : ((spec_l8End.f kj6 l0 (wrap64 (x7_1 + 1))).bind fun t318 => (spec_l8Deep.l0 kj6 l0 t317 t318 (wrap64 (x8_1 + 1)) ((rd_T81 l0 a1).f0) ((rd_T81 l0 a1).f1) ((rd_T81 l0 a1).f2))) = some r := H
             have A16 := am A160; clear A160
             obtain ⟨t318, A170, H⟩ := bO H
             replace H : (spec_l8Deep.l0 kj6 l0 t317 t318 (wrap64 (x8_1 + 1)) ((rd_T81 l0 a1).f0) ((rd_T81 l0 a1).f1) ((rd_T81 l0 a1).f2)) = some r := H
             have A17 := am A170; clear A170
             have H' := am H
             clear H
             obtain ⟨hcz18_0, hcz18_1, hcz18_2, hfz18_0, hfz18_1, hfz18_2⟩ := bx3 BK315
             go_wp2_with (first | ((with_reducible refine gC (f := 83) rfl ?_); refine goesL_ (some 39) rfl rfl Tryd.func83 (by kernel_rfl) rfl #[.slice (some ad314) l0.length c0, .int .i64 (wrap64 (x7_1 + 1))] rfl pA ?_; (with_reducible refine (ih kj6 (by have := HK1.out; have := HJ6.out; omega) _ _ l0 (wrap64 (x7_1 + 1)) t316 _ ?side1 ?side2 A15.out).mono ?_); (case side1 => exact pC (Kd.C_below HR0.out HB.out)); (case side2 => exact HC0.out); rintro e w19 ⟨rfl, hb⟩; refine ⟨_, rfl, ?_⟩; have n_ := t2 (blk_below (g := gb315) (o := .cells #[.int .i64 ((rd_T81 l0 a1).f0), .int .i64 ((rd_T81 l0 a1).f1), .string ((rd_T81 l0 a1).f2)] 81 (0, 0)) (pK BK315) hb) (bz_ pB hb); clear BK315 HB; obtain ⟨BK315, HB⟩ := n_; (try clear hb)) | ((with_reducible refine gC (f := 101) rfl ?_); refine goesL_ (some 41) rfl rfl Tryd.func101 (by kernel_rfl) rfl #[.int .i64 x6_1, .int .i64 (wrap64 (1 + t316))] rfl pA ?_; (with_reducible refine (spec_l1Max.calls x6_1 (wrap64 (1 + t316)) t317 _ A16.out).mono ?_); rintro e w' ⟨rfl, ⟨nd, rfl⟩⟩; refine ⟨_, rfl, ?_⟩) | ((with_reducible refine gC (f := 81) rfl ?_); refine goesL_ (some 44) rfl rfl Tryd.func81 (by kernel_rfl) rfl #[.slice (some ad314) l0.length c0, .int .i64 (wrap64 (x7_1 + 1))] rfl pA ?_; (with_reducible refine (spec_l8End.calls kj6 _ _ l0 (wrap64 (x7_1 + 1)) t318 _ ?side1 ?side2 A17.out).mono ?_); (case side1 => exact pC (Kd.C_below HR0.out pB)); (case side2 => exact HC0.out); rintro e w20 ⟨rfl, hb⟩; refine ⟨_, rfl, ?_⟩; have n_ := t2 (blk_below (g := gb315) (o := .cells #[.int .i64 ((rd_T81 l0 a1).f0), .int .i64 ((rd_T81 l0 a1).f1), .string ((rd_T81 l0 a1).f2)] 81 (0, 0)) (pK BK315) hb) (bz_ pB hb); clear BK315 HB; obtain ⟨BK315, HB⟩ := n_; (try clear hb)))
             go_roundg kj6
             case measure => have := HK1.out; have := HJ6.out; omega
             case rel => exact ⟨(t317), (t318), (wrap64 (x8_1 + 1)), pF, pF, pF, H', ⟨by have := HK1.out; have := HJ6.out; omega⟩, ⟨(pK BK315)⟩, ⟨pB⟩⟩
           · rw [if_neg c14] at H
             have c14b0 : (((rd_T81 l0 a1).f0) == 6) = false := beq_eq_false_iff_ne.mpr c14
             have c14b1 : (((rd_T81 l0 a1).f0) != 6) = true := bne_iff_ne.mpr c14
             obtain ⟨t319, A210, H⟩ := bO H
             replace H : ((spec_l1Max.f x6_1 (wrap64 (1 + t319))).bind fun t320 => ((spec_l8End.f kj6 l0 x7_1).bind fun t321 => (spec_l8Deep.l0 kj6 l0 t320 t321 (wrap64 (x8_1 + 1)) ((rd_T81 l0 a1).f0) ((rd_T81 l0 a1).f1) ((rd_T81 l0 a1).f2)))) = some r := H
             have A21 := am A210; clear A210
             obtain ⟨t320, A220, H⟩ := bO H
             replace H : ((spec_l8End.f kj6 l0 x7_1).bind fun t321 => (spec_l8Deep.l0 kj6 l0 t320 t321 (wrap64 (x8_1 + 1)) ((rd_T81 l0 a1).f0) ((rd_T81 l0 a1).f1) ((rd_T81 l0 a1).f2))) = some r := H
             have A22 := am A220; clear A220
             obtain ⟨t321, A230, H⟩ := bO H
             replace H : (spec_l8Deep.l0 kj6 l0 t320 t321 (wrap64 (x8_1 + 1)) ((rd_T81 l0 a1).f0) ((rd_T81 l0 a1).f1) ((rd_T81 l0 a1).f2)) = some r := H
             have A23 := am A230; clear A230
             have H' := am H
             clear H
             obtain ⟨hcz24_0, hcz24_1, hcz24_2, hfz24_0, hfz24_1, hfz24_2⟩ := bx3 BK315
             go_wp2_with (first | ((with_reducible refine gC (f := 83) rfl ?_); refine goesL_ (some 39) rfl rfl Tryd.func83 (by kernel_rfl) rfl #[.slice (some ad314) l0.length c0, .int .i64 x7_1] rfl pA ?_; (with_reducible refine (ih kj6 (by have := HK1.out; have := HJ6.out; omega) _ _ l0 x7_1 t319 _ ?side1 ?side2 A21.out).mono ?_); (case side1 => exact pC (Kd.C_below HR0.out HB.out)); (case side2 => exact HC0.out); rintro e w25 ⟨rfl, hb⟩; refine ⟨_, rfl, ?_⟩; have n_ := t2 (blk_below (g := gb315) (o := .cells #[.int .i64 ((rd_T81 l0 a1).f0), .int .i64 ((rd_T81 l0 a1).f1), .string ((rd_T81 l0 a1).f2)] 81 (0, 0)) (pK BK315) hb) (bz_ pB hb); clear BK315 HB; obtain ⟨BK315, HB⟩ := n_; (try clear hb)) | ((with_reducible refine gC (f := 101) rfl ?_); refine goesL_ (some 41) rfl rfl Tryd.func101 (by kernel_rfl) rfl #[.int .i64 x6_1, .int .i64 (wrap64 (1 + t319))] rfl pA ?_; (with_reducible refine (spec_l1Max.calls x6_1 (wrap64 (1 + t319)) t320 _ A22.out).mono ?_); rintro e w' ⟨rfl, ⟨nd, rfl⟩⟩; refine ⟨_, rfl, ?_⟩) | ((with_reducible refine gC (f := 81) rfl ?_); refine goesL_ (some 44) rfl rfl Tryd.func81 (by kernel_rfl) rfl #[.slice (some ad314) l0.length c0, .int .i64 x7_1] rfl pA ?_; (with_reducible refine (spec_l8End.calls kj6 _ _ l0 x7_1 t321 _ ?side1 ?side2 A23.out).mono ?_); (case side1 => exact pC (Kd.C_below HR0.out pB)); (case side2 => exact HC0.out); rintro e w26 ⟨rfl, hb⟩; refine ⟨_, rfl, ?_⟩; have n_ := t2 (blk_below (g := gb315) (o := .cells #[.int .i64 ((rd_T81 l0 a1).f0), .int .i64 ((rd_T81 l0 a1).f1), .string ((rd_T81 l0 a1).f2)] 81 (0, 0)) (pK BK315) hb) (bz_ pB hb); clear BK315 HB; obtain ⟨BK315, HB⟩ := n_; (try clear hb)))
             go_roundg kj6
             case measure => have := HK1.out; have := HJ6.out; omega
             case rel => exact ⟨(t320), (t321), (wrap64 (x8_1 + 1)), pF, pF, pF, H', ⟨by have := HK1.out; have := HJ6.out; omega⟩, ⟨(pK BK315)⟩, ⟨pB⟩⟩
         · replace c13 := Bool.eq_false_iff.mpr c13
           subst c13
           have H1 : (some x6_1) = some r := by rw [if_neg (show ¬ (false = true) by decide)] at H; exact H
           clear H; have H := H1; clear H1
           obtain rfl := sj H
           go_wp2
           go_ret
           exact ⟨pE, pB⟩
   · rw [if_neg c4] at H
     exact absurd H (by simp)
 · rw [if_neg c3] at H
   exact absurd H (by simp)
end Go.Proofs.YthjlbpgiaehjnaaDoor.QFnCuts
