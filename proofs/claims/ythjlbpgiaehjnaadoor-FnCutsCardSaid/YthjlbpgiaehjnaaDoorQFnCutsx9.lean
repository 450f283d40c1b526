-- written by this session's program (wip/tools/myprint.py)
import Derived.Test.YthjlbpgiaehjnaaDoorQFnCutsx0
-- squeezed
namespace Go.Proofs.YthjlbpgiaehjnaaDoor.QFnCuts
open Go.RowKit Go.Proofs.YthjlbpgiaehjnaaDoorW.PrintWords Go.Proofs.YthjlbpgiaehjnaaDoorW.PrintLast Go.Proofs.YthjlbpgiaehjnaaDoorW.PrintMore
attribute [local go_sem] max2_int min2_int max_two min_two max_three min_three max_four min_four   -- for this text's walks alone
set_option linter.unusedVariables false
set_option linter.unusedSimpArgs false
set_option maxHeartbeats 8000000
set_option maxRecDepth 100000
mutual
def spec_l8End.j0 : Nat → List (S81) → Int → Bool → Option (Int)
 | 0, _, _, _ => none
 | k + 1, x0, x1, x14 => if x14 = true then (some (-1)) else (if 0 ≤ x1 then (if x1 < (x0.length : Int) then (spec_l8End.l0 k x0 (wrap64 (x1 + 1)) 0 ((rd_T81 x0 x1).f0) ((rd_T81 x0 x1).f1) ((rd_T81 x0 x1).f2)) else (none)) else (none))
def spec_l8End.l0 : Nat → List (S81) → Int → Int → Int → Int → ByteArray → Option (Int)
 | 0, _, _, _, _, _, _ => none
 | k + 1, x0, x1, x6, x300000, x300001, x300002 => if x6 < x300001 then (if x300000 = 5 then (spec_l8End.j2 k x0 x1 x6 true x300000 x300001 x300002) else (spec_l8End.j2 k x0 x1 x6 (x300000 == 6) x300000 x300001 x300002)) else (spec_l8End.j2 k x0 x1 x6 false x300000 x300001 x300002)
def spec_l8End.j2 : Nat → List (S81) → Int → Int → Bool → Int → Int → ByteArray → Option (Int)
 | 0, _, _, _, _, _, _, _ => none
 | k + 1, x0, x1, x6, x34, x300000, x300001, x300002 => if x34 = true then (if x300000 = 6 then (if x1 < 0 then (spec_l8End.j3 k x0 x1 x6 true x300000 x300001 x300002) else (if x1 ≥ (x0.length : Int) then (spec_l8End.j3 k x0 x1 x6 true x300000 x300001 x300002) else (if 0 ≤ x1 then (if x1 < (x0.length : Int) then (spec_l8End.j3 k x0 x1 x6 (((rd_T81 x0 x1).f0) != 4) x300000 x300001 x300002) else (none)) else (none)))) else ((spec_l8End.f k x0 x1).bind fun t302 => (if t302 < 0 then (some (-1)) else (spec_l8End.l0 k x0 t302 (wrap64 (x6 + 1)) x300000 x300001 x300002)))) else (some x1)
def spec_l8End.j3 : Nat → List (S81) → Int → Int → Bool → Int → Int → ByteArray → Option (Int)
 | 0, _, _, _, _, _, _, _ => none
 | k + 1, x0, x1, x6, x55, x300000, x300001, x300002 => if x55 = true then (some (-1)) else ((spec_l8End.f k x0 (wrap64 (x1 + 1))).bind fun t301 => (if t301 < 0 then (some (-1)) else (spec_l8End.l0 k x0 t301 (wrap64 (x6 + 1)) x300000 x300001 x300002)))
def spec_l8End.f : Nat → List (S81) → Int → Option (Int)
 | 0, _, _ => none
 | k + 1, l0, a1 => if a1 < 0 then (spec_l8End.j0 k l0 a1 true) else (spec_l8End.j0 k l0 a1 (decide (a1 ≥ (l0.length : Int))))
end
theorem spec_l8End.mono_l : ∀ k, (∀ y0 y1, LeO (spec_l8End.f k y0 y1) (spec_l8End.f (k + 1) y0 y1)) ∧ (∀ y0 y1 y2, LeO (spec_l8End.j0 k y0 y1 y2) (spec_l8End.j0 (k + 1) y0 y1 y2)) ∧ (∀ y0 y1 y2 y3 y4 y5, LeO (spec_l8End.l0 k y0 y1 y2 y3 y4 y5) (spec_l8End.l0 (k + 1) y0 y1 y2 y3 y4 y5)) ∧ (∀ y0 y1 y2 y3 y4 y5 y6, LeO (spec_l8End.j2 k y0 y1 y2 y3 y4 y5 y6) (spec_l8End.j2 (k + 1) y0 y1 y2 y3 y4 y5 y6)) ∧ (∀ y0 y1 y2 y3 y4 y5 y6, LeO (spec_l8End.j3 k y0 y1 y2 y3 y4 y5 y6) (spec_l8End.j3 (k + 1) y0 y1 y2 y3 y4 y5 y6))
 | 0 => ⟨fun _ _ r h => by simp [spec_l8End.f] at h, fun _ _ _ r h => by simp [spec_l8End.j0] at h, fun _ _ _ _ _ _ r h => by simp [spec_l8End.l0] at h, fun _ _ _ _ _ _ _ r h => by simp [spec_l8End.j2] at h, fun _ _ _ _ _ _ _ r h => by simp [spec_l8End.j3] at h⟩
 | k + 1 => by
  obtain ⟨ih0, ih1, ih2, ih3, ih4⟩ := spec_l8End.mono_l k
  refine ⟨?_, ?_, ?_, ?_, ?_⟩
  · intro y0 y1
    unfold spec_l8End.f
    repeat' with_reducible first | exact ih0 _ _ | exact ih1 _ _ _ | exact ih2 _ _ _ _ _ _ | exact ih3 _ _ _ _ _ _ _ | exact ih4 _ _ _ _ _ _ _ | exact LeO.refl _ | exact LeO.none _ | refine LeO.ite ?_ ?_ | refine LeO.bind ?_ (fun _ => ?_)
  · intro y0 y1 y2
    unfold spec_l8End.j0
    repeat' with_reducible first | exact ih0 _ _ | exact ih1 _ _ _ | exact ih2 _ _ _ _ _ _ | exact ih3 _ _ _ _ _ _ _ | exact ih4 _ _ _ _ _ _ _ | exact LeO.refl _ | exact LeO.none _ | refine LeO.ite ?_ ?_ | refine LeO.bind ?_ (fun _ => ?_)
  · intro y0 y1 y2 y3 y4 y5
    unfold spec_l8End.l0
    repeat' with_reducible first | exact ih0 _ _ | exact ih1 _ _ _ | exact ih2 _ _ _ _ _ _ | exact ih3 _ _ _ _ _ _ _ | exact ih4 _ _ _ _ _ _ _ | exact LeO.refl _ | exact LeO.none _ | refine LeO.ite ?_ ?_ | refine LeO.bind ?_ (fun _ => ?_)
  · intro y0 y1 y2 y3 y4 y5 y6
    unfold spec_l8End.j2
    repeat' with_reducible first | exact ih0 _ _ | exact ih1 _ _ _ | exact ih2 _ _ _ _ _ _ | exact ih3 _ _ _ _ _ _ _ | exact ih4 _ _ _ _ _ _ _ | exact LeO.refl _ | exact LeO.none _ | refine LeO.ite ?_ ?_ | refine LeO.bind ?_ (fun _ => ?_)
  · intro y0 y1 y2 y3 y4 y5 y6
    unfold spec_l8End.j3
    repeat' with_reducible first | exact ih0 _ _ | exact ih1 _ _ _ | exact ih2 _ _ _ _ _ _ | exact ih3 _ _ _ _ _ _ _ | exact ih4 _ _ _ _ _ _ _ | exact LeO.refl _ | exact LeO.none _ | refine LeO.ite ?_ ?_ | refine LeO.bind ?_ (fun _ => ?_)
theorem spec_l8End.mono : ∀ a0 a1 k, LeO (spec_l8End.f k a0 a1) (spec_l8End.f (k + 1) a0 a1) := by
 intro a0 a1 k
 obtain ⟨ih0, ih1, ih2, ih3, ih4⟩ := spec_l8End.mono_l k
 exact ih0 a0 a1
theorem spec_l8End.calls (k : Nat) : ∀ (A0 : Option Addr) (c0 : Nat) (l0 : List (S81)) (a1 : Int) (r : Int) (w : World) (hr0 : Kd.C k81 w A0 l0.length l0) (hc0 : l0.length ≤ c0) (h : spec_l8End.f k l0 a1 = some r),
 Calls Tryd.prog 81 #[.slice A0 l0.length c0, .int .i64 a1] w fun e w' => e = .returned (.int .i64 r) ∧ Below w.heap.size w w' := by
 induction k using Nat.strongRecOn with
 | _ k ih =>
 intro A0 c0 l0 a1 r w hr0 hc0 h
 cases k with
 | zero => exact absurd h (by simp [spec_l8End.f])
 | succ k =>
 simp only [spec_l8End.f] at h
 have hu81 := Tryd.underlying81
 have HR0 := am hr0; have HC0 := am hc0; clear hr0 hc0
 have HB := am (Below.refl w.heap.size w)
 have H : (if a1 < 0 then (spec_l8End.j0 k l0 a1 true) else (spec_l8End.j0 k l0 a1 (decide (a1 ≥ (l0.length : Int))))) = some r := h
 clear h; have HC3 := am H; clear H
 go_enter Tryd.func81, Tryd.ntmps81
 go_upto_region 1 with (fail)
 go_cut [14] (fun v14 wc => ∃ (kq : Nat) (x14_2 : Bool), v14 = .bool x14_2 ∧ Aside0 (spec_l8End.j0 kq l0 a1 x14_2 = some r) ∧ Aside0 (kq ≤ k) ∧ Aside0 (Below w.heap.size w wc))
 case first =>
  have H := HC3.out
  clear HC3
  by_cases c4 : a1 < 0
  · rw [if_pos c4] at H
    have c4b0 : decide (a1 < 0) = true := dt c4
    clear c4
    (first | rw [c4b0] | (simp only [i64_w, i32_w]; rw [c4b0]) | skip)
    have H' := am H
    clear H
    go_wp2
    go_meet
    case rel => exact ⟨_, (true), pF, H', ⟨by first | omega | exact Nat.le_refl _⟩, ⟨pB⟩⟩
  · rw [if_neg c4] at H
    have c4b0 : decide (a1 < 0) = false := decide_eq_false c4
    clear c4
    (first | rw [c4b0] | (simp only [i64_w, i32_w]; rw [c4b0]) | skip)
    have H' := am H
    clear H
    go_wp2
    go_meet
    case rel => exact ⟨_, (decide (a1 ≥ (l0.length : Int))), pF, H', ⟨by first | omega | exact Nat.le_refl _⟩, ⟨pB⟩⟩
 case rest =>
  clear HC3
  obtain ⟨kq, x14_2, rfl, HA, HJ2, HB⟩ := hcut
  cases kq with
  | zero => exact absurd HA.out (by simp [spec_l8End.j0])
  | succ kj2 =>
   have H := HA.out
   clear HA
   simp only [spec_l8End.j0] at H
   by_cases c5 : x14_2 = true
   · subst c5
     have H1 : (some (-1)) = some r := by rw [if_pos rfl] at H; exact H
     clear H; have H := H1; clear H1
     obtain rfl := sj H
     go_wp2
     go_ret
     exact ⟨pE, pB⟩
   · replace c5 := Bool.eq_false_iff.mpr c5
     subst c5
     have H1 : (if 0 ≤ a1 then (if a1 < (l0.length : Int) then (spec_l8End.l0 kj2 l0 (wrap64 (a1 + 1)) 0 ((rd_T81 l0 a1).f0) ((rd_T81 l0 a1).f1) ((rd_T81 l0 a1).f2)) else (none)) else (none)) = some r := by rw [if_neg (show ¬ (false = true) by decide)] at H; exact H
     clear H; have H := H1; clear H1
     by_cases c6 : 0 ≤ a1
     · rw [if_pos c6] at H
       have c6b0 : decide (0 ≤ a1) = true := dt c6
       clear c6
       by_cases c7 : a1 < (l0.length : Int)
       · rw [if_pos c7] at H
         have c7b0 : decide (a1 < (l0.length : Int)) = true := dt c7
         clear c7
         have H' := am H
         clear H
         have p298 : 0 ≤ (a1 : Int) := pD
         have q298 : a1 < (l0.length : Int) := pD
         obtain ⟨ad298, e298, hx298_0, hx298_1, hx298_2⟩ := at_T81 HR0.out a1 p298 q298
         cases e298; replace hx298_0 := cb HB hx298_0; replace hx298_1 := cb HB hx298_1; replace hx298_2 := cb HB hx298_2; replace p298 := eq_true p298; replace q298 := eq_true q298
         go_wp2_with (first | ((with_reducible refine gate_dst (N := 5) rfl ?_); (try (refine gate_guard (by rfl) ?_; dsimp only)); refine box_event ?hg (N := 5) ?hd (cs := #[.int .i64 0, .int .i64 0, .string (⟨#[]⟩ : ByteArray)]) (t := 81) ?hr ?_; (case hd => rfl); (case hg => rfl); (case hr => first | (go_simp; done) | (go_simp; rfl)); intro gb299 hg w8 hbox hb; have n_ := t4 (bz_ pB hb) (hbox) ((by rw [hg]; exact (bs_ pB) : w.heap.size ≤ gb299)) ((by rw [hg]; exact (bs_ pB) : w.heap.size ≤ gb299)); clear HB; obtain ⟨HB, BK299, GW299, GE299⟩ := n_; clear hb hbox hg; have hcz9_0 : w8.cell? ⟨gb299, 0, none⟩ = some (.int .i64 0) := (blk_cell BK299.out 0).trans rfl; have hcz9_1 : w8.cell? ⟨gb299, 1, none⟩ = some (.int .i64 0) := (blk_cell BK299.out 1).trans rfl; have hcz9_2 : w8.cell? ⟨gb299, 2, none⟩ = some (.string (⟨#[]⟩ : ByteArray)) := (blk_cell BK299.out 2).trans rfl; have hfz9_0 := blk_frozen BK299.out 0; have hfz9_1 := blk_frozen BK299.out 1; have hfz9_2 := blk_frozen BK299.out 2))
         go_loopg [1, 6] kj2 (fun kq v1 v6 w' => ∃ (x1_2 : Int) (x6_2 : Int), v1 = .int .i64 x1_2 ∧ v6 = .int .i64 x6_2 ∧ Aside0 (spec_l8End.l0 kq l0 x1_2 x6_2 ((rd_T81 l0 a1).f0) ((rd_T81 l0 a1).f1) ((rd_T81 l0 a1).f2) = some r) ∧ Aside0 (kq ≤ kj2) ∧ Aside0 (w'.heap[gb299]? = some (.cells #[.int .i64 ((rd_T81 l0 a1).f0), .int .i64 ((rd_T81 l0 a1).f1), .string ((rd_T81 l0 a1).f2)] 81 (0, 0))) ∧ Aside0 (Below w.heap.size w w'))
         case atStart => exact ⟨(wrap64 (a1 + 1)), (0), pF, pF, H', ⟨Nat.le_refl _⟩, ⟨by (with_reducible repeat (first | refine blk_drewN ?_ _ | refine blk_drew ?_ | refine blk_alloc ?_ _)); refine blk_put (cs := #[.int .i64 ((rd_T81 l0 a1).f0), .int .i64 ((rd_T81 l0 a1).f1), .string (⟨#[]⟩ : ByteArray)]) ?_ 2 _ rfl; (with_reducible repeat (first | refine blk_drewN ?_ _ | refine blk_drew ?_ | refine blk_alloc ?_ _)); refine blk_put (cs := #[.int .i64 ((rd_T81 l0 a1).f0), .int .i64 0, .string (⟨#[]⟩ : ByteArray)]) ?_ 1 _ rfl; (with_reducible repeat (first | refine blk_drewN ?_ _ | refine blk_drew ?_ | refine blk_alloc ?_ _)); refine blk_put (cs := #[.int .i64 0, .int .i64 0, .string (⟨#[]⟩ : ByteArray)]) ?_ 0 _ rfl; (with_reducible repeat (first | refine blk_drewN ?_ _ | refine blk_drew ?_ | refine blk_alloc ?_ _)); exact BK299.out⟩, ⟨pB⟩⟩
         case round =>
          clear H'
          (try clear c5); (try clear c6); (try clear c6b0); (try clear c7); (try clear c7b0); (try clear hcz9_0); (try clear hcz9_1); (try clear hcz9_2); (try clear hfz9_0); (try clear hfz9_1); (try clear hfz9_2); (try clear hx298_0); (try clear hx298_1); (try clear hx298_2); (try clear p298); (try clear q298)
          obtain ⟨x1_2, x6_2, rfl, rfl, HA, HK2, BK299, HB⟩ := hrel
          cases gk with
          | zero => exact absurd HA.out (by simp [spec_l8End.l0])
          | succ k2 =>
           have H := HA.out
           clear HA
           simp only [spec_l8End.l0] at H
           have HC10 := am H; clear H
           go_upto_region 6 with (fail)
           go_cut [34] (fun v34 wc => ∃ (kq : Nat) (x34_9 : Bool), v34 = .bool x34_9 ∧ Aside0 (spec_l8End.j2 kq l0 x1_2 x6_2 x34_9 ((rd_T81 l0 a1).f0) ((rd_T81 l0 a1).f1) ((rd_T81 l0 a1).f2) = some r) ∧ Aside0 (kq ≤ k2) ∧ Aside0 (wc.heap[gb299]? = some (.cells #[.int .i64 ((rd_T81 l0 a1).f0), .int .i64 ((rd_T81 l0 a1).f1), .string ((rd_T81 l0 a1).f2)] 81 (0, 0))) ∧ Aside0 (Below w.heap.size w wc))
           case first =>
            have H := HC10.out
            clear HC10
            by_cases c11 : x6_2 < ((rd_T81 l0 a1).f1)
            · rw [if_pos c11] at H
              have c11b0 : decide (x6_2 < ((rd_T81 l0 a1).f1)) = true := dt c11
              clear c11
              (first | rw [c11b0] | (simp only [i64_w, i32_w]; rw [c11b0]) | skip)
              by_cases c12 : ((rd_T81 l0 a1).f0) = 5
              · rw [if_pos c12] at H
                have c12b0 : (((rd_T81 l0 a1).f0) == 5) = true := beq_iff_eq.mpr c12
                have c12b1 : (((rd_T81 l0 a1).f0) != 5) = false := bne_eq_false_iff_eq.mpr c12
                clear c12
                have H' := am H
                clear H
                obtain ⟨hcz13_0, hcz13_1, hcz13_2, hfz13_0, hfz13_1, hfz13_2⟩ := bx3 BK299
                go_wp2
                go_meet
                case rel => exact ⟨_, (true), pF, H', ⟨by have := HJ2.out; have := HK2.out; first | omega | exact Nat.le_refl _⟩, ⟨(pK BK299)⟩, ⟨pB⟩⟩
              · rw [if_neg c12] at H
                have c12b0 : (((rd_T81 l0 a1).f0) == 5) = false := beq_eq_false_iff_ne.mpr c12
                have c12b1 : (((rd_T81 l0 a1).f0) != 5) = true := bne_iff_ne.mpr c12
                have H' := am H
                clear H
                obtain ⟨hcz14_0, hcz14_1, hcz14_2, hfz14_0, hfz14_1, hfz14_2⟩ := bx3 BK299
                go_wp2
                go_meet
                case rel => exact ⟨_, ((((rd_T81 l0 a1).f0) == 6)), pF, H', ⟨by have := HJ2.out; have := HK2.out; first | omega | exact Nat.le_refl _⟩, ⟨(pK BK299)⟩, ⟨pB⟩⟩
            · rw [if_neg c11] at H
              have c11b0 : decide (x6_2 < ((rd_T81 l0 a1).f1)) = false := decide_eq_false c11
              clear c11
              (first | rw [c11b0] | (simp only [i64_w, i32_w]; rw [c11b0]) | skip)
              have H' := am H
              clear H
              obtain ⟨hcz15_0, hcz15_1, hcz15_2, hfz15_0, hfz15_1, hfz15_2⟩ := bx3 BK299
              go_wp2
              go_meet
              case rel => exact ⟨_, (false), pF, H', ⟨by have := HJ2.out; have := HK2.out; first | omega | exact Nat.le_refl _⟩, ⟨(pK BK299)⟩, ⟨pB⟩⟩
           case rest =>
            clear HC10; (try clear c5); (try clear c6); (try clear c6b0); (try clear c7); (try clear c7b0); (try clear hcz9_0); (try clear hcz9_1); (try clear hcz9_2); (try clear hfz9_0); (try clear hfz9_1); (try clear hfz9_2); (try clear hx298_0); (try clear hx298_1); (try clear hx298_2); (try clear p298); (try clear q298)
            obtain ⟨kq, x34_9, rfl, HA, HJ9, BK299, HB⟩ := hcut
            cases kq with
            | zero => exact absurd HA.out (by simp [spec_l8End.j2])
            | succ kj9 =>
             have H := HA.out
             clear HA
             simp only [spec_l8End.j2] at H
             by_cases c16 : x34_9 = true
             · subst c16
               have H1 : (if ((rd_T81 l0 a1).f0) = 6 then (if x1_2 < 0 then (spec_l8End.j3 kj9 l0 x1_2 x6_2 true ((rd_T81 l0 a1).f0) ((rd_T81 l0 a1).f1) ((rd_T81 l0 a1).f2)) else (if x1_2 ≥ (l0.length : Int) then (spec_l8End.j3 kj9 l0 x1_2 x6_2 true ((rd_T81 l0 a1).f0) ((rd_T81 l0 a1).f1) ((rd_T81 l0 a1).f2)) else (if 0 ≤ x1_2 then (if x1_2 < (l0.length : Int) then (spec_l8End.j3 kj9 l0 x1_2 x6_2 (((rd_T81 l0 x1_2).f0) != 4) ((rd_T81 l0 a1).f0) ((rd_T81 l0 a1).f1) ((rd_T81 l0 a1).f2)) else (none)) else (none)))) else ((spec_l8End.f kj9 l0 x1_2).bind fun t302 => (if t302 < 0 then (some (-1)) else (spec_l8End.l0 kj9 l0 t302 (wrap64 (x6_2 + 1)) ((rd_T81 l0 a1).f0) ((rd_T81 l0 a1).f1) ((rd_T81 l0 a1).f2))))) = some r := by rw [if_pos rfl] at H; exact H
               clear H; have H := H1; clear H1
               by_cases c17 : ((rd_T81 l0 a1).f0) = 6
               · rw [if_pos c17] at H
                 have c17b0 : (((rd_T81 l0 a1).f0) == 6) = true := beq_iff_eq.mpr c17
                 have c17b1 : (((rd_T81 l0 a1).f0) != 6) = false := bne_eq_false_iff_eq.mpr c17
                 clear c17; have HC18 := am H; clear H
                 obtain ⟨hcz19_0, hcz19_1, hcz19_2, hfz19_0, hfz19_1, hfz19_2⟩ := bx3 BK299
                 go_upto_region 9 with (fail)
                 go_cut [55] (fun v55 wc => ∃ (kq : Nat) (x55_17 : Bool), v55 = .bool x55_17 ∧ Aside0 (spec_l8End.j3 kq l0 x1_2 x6_2 x55_17 ((rd_T81 l0 a1).f0) ((rd_T81 l0 a1).f1) ((rd_T81 l0 a1).f2) = some r) ∧ Aside0 (kq ≤ kj9) ∧ Aside0 (wc.heap[gb299]? = some (.cells #[.int .i64 ((rd_T81 l0 a1).f0), .int .i64 ((rd_T81 l0 a1).f1), .string ((rd_T81 l0 a1).f2)] 81 (0, 0))) ∧ Aside0 (Below w.heap.size w wc))
                 case first =>
                  have H := HC18.out
                  clear HC18
                  by_cases c20 : x1_2 < 0
                  · rw [if_pos c20] at H
                    have c20b0 : decide (x1_2 < 0) = true := dt c20
                    clear c20
                    (first | rw [c20b0] | (simp only [i64_w, i32_w]; rw [c20b0]) | skip)
                    have H' := am H
                    clear H
                    go_wp2
                    go_meet
                    case rel => exact ⟨_, (true), pF, H', ⟨by have := HJ2.out; have := HK2.out; have := HJ9.out; first | omega | exact Nat.le_refl _⟩, ⟨(pK BK299)⟩, ⟨pB⟩⟩
                  · rw [if_neg c20] at H
                    have c20b0 : decide (x1_2 < 0) = false := decide_eq_false c20
                    clear c20
                    (first | rw [c20b0] | (simp only [i64_w, i32_w]; rw [c20b0]) | skip)
                    by_cases c21 : x1_2 ≥ (l0.length : Int)
                    · rw [if_pos c21] at H
                      have c21b0 : decide ((l0.length : Int) ≤ x1_2) = true := dt c21
                      clear c21
                      have H' := am H
                      clear H
                      go_wp2
                      go_meet
                      case rel => exact ⟨_, (true), pF, H', ⟨by have := HJ2.out; have := HK2.out; have := HJ9.out; first | omega | exact Nat.le_refl _⟩, ⟨(pK BK299)⟩, ⟨pB⟩⟩
                    · rw [if_neg c21] at H
                      have c21b0 : decide ((l0.length : Int) ≤ x1_2) = false := decide_eq_false c21
                      clear c21
                      by_cases c22 : 0 ≤ x1_2
                      · rw [if_pos c22] at H
                        have c22b0 : decide (0 ≤ x1_2) = true := dt c22
                        clear c22
                        by_cases c23 : x1_2 < (l0.length : Int)
                        · rw [if_pos c23] at H
                          have c23b0 : decide (x1_2 < (l0.length : Int)) = true := dt c23
                          clear c23
                          have H' := am H
                          clear H
                          have p300 : 0 ≤ (x1_2 : Int) := pD
                          have q300 : x1_2 < (l0.length : Int) := pD
                          obtain ⟨ad300, e300, hx300_0, hx300_1, hx300_2⟩ := at_T81 HR0.out x1_2 p300 q300
                          obtain rfl : ad298 = ad300 := (by injection e300)
                          replace hx300_0 := cb HB hx300_0; replace hx300_1 := cb HB hx300_1; replace hx300_2 := cb HB hx300_2; replace p300 := eq_true p300; replace q300 := eq_true q300
                          go_wp2
                          go_meet
                          case rel => exact ⟨_, ((((rd_T81 l0 x1_2).f0) != 4)), pF, H', ⟨by have := HJ2.out; have := HK2.out; have := HJ9.out; first | omega | exact Nat.le_refl _⟩, ⟨(pK BK299)⟩, ⟨pB⟩⟩
                        · rw [if_neg c23] at H
                          exact absurd H (by simp)
                      · rw [if_neg c22] at H
                        exact absurd H (by simp)
                 case rest =>
                  clear HC18; (try clear c5); (try clear c6); (try clear c6b0); (try clear c7); (try clear c7b0); (try clear c16); (try clear c17); (try clear c17b0); (try clear c17b1); (try clear hcz19_0); (try clear hcz19_1); (try clear hcz19_2); (try clear hcz9_0); (try clear hcz9_1); (try clear hcz9_2); (try clear hfz19_0); (try clear hfz19_1); (try clear hfz19_2); (try clear hfz9_0); (try clear hfz9_1); (try clear hfz9_2); (try clear hx298_0); (try clear hx298_1); (try clear hx298_2); (try clear p298); (try clear q298)
                  obtain ⟨kq, x55_17, rfl, HA, HJ17, BK299, HB⟩ := hcut
                  cases kq with
                  | zero => exact absurd HA.out (by simp [spec_l8End.j3])
                  | succ kj17 =>
                   have H := HA.out
                   clear HA
                   simp only [spec_l8End.j3] at H
                   by_cases c24 : x55_17 = true
                   · subst c24
                     have H1 : (some (-1)) = some r := by rw [if_pos rfl] at H; exact H
                     clear H; have H := H1; clear H1
                     obtain rfl := sj H
                     go_wp2
                     go_ret
                     exact ⟨pE, pB⟩
                   · replace c24 := Bool.eq_false_iff.mpr c24
                     subst c24
                     have H1 : ((spec_l8End.f kj17 l0 (wrap64 (x1_2 + 1))).bind fun t301 => (if t301 < 0 then (some (-1)) else (spec_l8End.l0 kj17 l0 t301 (wrap64 (x6_2 + 1)) ((rd_T81 l0 a1).f0) ((rd_T81 l0 a1).f1) ((rd_T81 l0 a1).f2)))) = some r := by rw [if_neg (show ¬ (false = true) by decide)] at H; exact H
                     clear H; have H := H1; clear H1
                     obtain ⟨t301, A250, H⟩ := bO H
                     replace H : (if t301 < 0 then (some (-1)) else (spec_l8End.l0 kj17 l0 t301 (wrap64 (x6_2 + 1)) ((rd_T81 l0 a1).f0) ((rd_T81 l0 a1).f1) ((rd_T81 l0 a1).f2))) = some r := H
                     have A25 := am A250; clear A250
                     by_cases c26 : t301 < 0
                     · rw [if_pos c26] at H
                       have c26b0 : decide (t301 < 0) = true := dt c26
                       clear c26
                       obtain rfl := sj H
                       go_wp2_with (first | ((with_reducible refine gC (f := 81) rfl ?_); refine goesL_ (some 60) rfl rfl Tryd.func81 (by kernel_rfl) rfl #[.slice (some ad298) l0.length c0, .int .i64 (wrap64 (x1_2 + 1))] rfl pA ?_; (with_reducible refine (ih kj17 (by have := HJ2.out; have := HK2.out; have := HJ9.out; have := HJ17.out; omega) _ _ l0 (wrap64 (x1_2 + 1)) t301 _ ?side1 ?side2 A25.out).mono ?_); (case side1 => exact pC (Kd.C_below HR0.out HB.out)); (case side2 => exact HC0.out); rintro e w27 ⟨rfl, hb⟩; refine ⟨_, rfl, ?_⟩; have n_ := t2 (blk_below (g := gb299) (o := .cells #[.int .i64 ((rd_T81 l0 a1).f0), .int .i64 ((rd_T81 l0 a1).f1), .string ((rd_T81 l0 a1).f2)] 81 (0, 0)) (pK BK299) hb) (bz_ pB hb); clear BK299 HB; obtain ⟨BK299, HB⟩ := n_; (try clear hb)))
                       go_ret
                       exact ⟨pE, pB⟩
                     · rw [if_neg c26] at H
                       have c26b0 : decide (t301 < 0) = false := decide_eq_false c26
                       clear c26
                       have H' := am H
                       clear H
                       go_wp2_with (first | ((with_reducible refine gC (f := 81) rfl ?_); refine goesL_ (some 60) rfl rfl Tryd.func81 (by kernel_rfl) rfl #[.slice (some ad298) l0.length c0, .int .i64 (wrap64 (x1_2 + 1))] rfl pA ?_; (with_reducible refine (ih kj17 (by have := HJ2.out; have := HK2.out; have := HJ9.out; have := HJ17.out; omega) _ _ l0 (wrap64 (x1_2 + 1)) t301 _ ?side1 ?side2 A25.out).mono ?_); (case side1 => exact pC (Kd.C_below HR0.out HB.out)); (case side2 => exact HC0.out); rintro e w28 ⟨rfl, hb⟩; refine ⟨_, rfl, ?_⟩; have n_ := t2 (blk_below (g := gb299) (o := .cells #[.int .i64 ((rd_T81 l0 a1).f0), .int .i64 ((rd_T81 l0 a1).f1), .string ((rd_T81 l0 a1).f2)] 81 (0, 0)) (pK BK299) hb) (bz_ pB hb); clear BK299 HB; obtain ⟨BK299, HB⟩ := n_; (try clear hb)))
                       go_roundg kj17
                       case measure => have := HJ2.out; have := HK2.out; have := HJ9.out; have := HJ17.out; omega
                       case rel => exact ⟨(t301), (wrap64 (x6_2 + 1)), pF, pF, H', ⟨by have := HJ2.out; have := HK2.out; have := HJ9.out; have := HJ17.out; omega⟩, ⟨(pK BK299)⟩, ⟨pB⟩⟩
               · rw [if_neg c17] at H
                 have c17b0 : (((rd_T81 l0 a1).f0) == 6) = false := beq_eq_false_iff_ne.mpr c17
                 have c17b1 : (((rd_T81 l0 a1).f0) != 6) = true := bne_iff_ne.mpr c17
                 obtain ⟨t302, A290, H⟩ := bO H
                 replace H : (if t302 < 0 then (some (-1)) else (spec_l8End.l0 kj9 l0 t302 (wrap64 (x6_2 + 1)) ((rd_T81 l0 a1).f0) ((rd_T81 l0 a1).f1) ((rd_T81 l0 a1).f2))) = some r := H
                 have A29 := am A290; clear A290
                 by_cases c30 : t302 < 0
                 · rw [if_pos c30] at H
                   have c30b0 : decide (t302 < 0) = true := dt c30
                   clear c30
                   obtain rfl := sj H
                   obtain ⟨hcz31_0, hcz31_1, hcz31_2, hfz31_0, hfz31_1, hfz31_2⟩ := bx3 BK299
                   go_wp2_with (first | ((with_reducible refine gC (f := 81) rfl ?_); refine goesL_ (some 60) rfl rfl Tryd.func81 (by kernel_rfl) rfl #[.slice (some ad298) l0.length c0, .int .i64 x1_2] rfl pA ?_; (with_reducible refine (ih kj9 (by have := HJ2.out; have := HK2.out; have := HJ9.out; omega) _ _ l0 x1_2 t302 _ ?side1 ?side2 A29.out).mono ?_); (case side1 => exact pC (Kd.C_below HR0.out HB.out)); (case side2 => exact HC0.out); rintro e w32 ⟨rfl, hb⟩; refine ⟨_, rfl, ?_⟩; have n_ := t2 (blk_below (g := gb299) (o := .cells #[.int .i64 ((rd_T81 l0 a1).f0), .int .i64 ((rd_T81 l0 a1).f1), .string ((rd_T81 l0 a1).f2)] 81 (0, 0)) (pK BK299) hb) (bz_ pB hb); clear BK299 HB; obtain ⟨BK299, HB⟩ := n_; (try clear hb)))
                   go_ret
                   exact ⟨pE, pB⟩
                 · rw [if_neg c30] at H
                   have c30b0 : decide (t302 < 0) = false := decide_eq_false c30
                   clear c30
                   have H' := am H
                   clear H
                   obtain ⟨hcz33_0, hcz33_1, hcz33_2, hfz33_0, hfz33_1, hfz33_2⟩ := bx3 BK299
                   go_wp2_with (first | ((with_reducible refine gC (f := 81) rfl ?_); refine goesL_ (some 60) rfl rfl Tryd.func81 (by kernel_rfl) rfl #[.slice (some ad298) l0.length c0, .int .i64 x1_2] rfl pA ?_; (with_reducible refine (ih kj9 (by have := HJ2.out; have := HK2.out; have := HJ9.out; omega) _ _ l0 x1_2 t302 _ ?side1 ?side2 A29.out).mono ?_); (case side1 => exact pC (Kd.C_below HR0.out HB.out)); (case side2 => exact HC0.out); rintro e w34 ⟨rfl, hb⟩; refine ⟨_, rfl, ?_⟩; have n_ := t2 (blk_below (g := gb299) (o := .cells #[.int .i64 ((rd_T81 l0 a1).f0), .int .i64 ((rd_T81 l0 a1).f1), .string ((rd_T81 l0 a1).f2)] 81 (0, 0)) (pK BK299) hb) (bz_ pB hb); clear BK299 HB; obtain ⟨BK299, HB⟩ := n_; (try clear hb)))
                   go_roundg kj9
                   case measure => have := HJ2.out; have := HK2.out; have := HJ9.out; omega
                   case rel => exact ⟨(t302), (wrap64 (x6_2 + 1)), pF, pF, H', ⟨by have := HJ2.out; have := HK2.out; have := HJ9.out; omega⟩, ⟨(pK BK299)⟩, ⟨pB⟩⟩
             · replace c16 := Bool.eq_false_iff.mpr c16
               subst c16
               have H1 : (some x1_2) = some r := by rw [if_neg (show ¬ (false = true) by decide)] at H; exact H
               clear H; have H := H1; clear H1
               obtain rfl := sj H
               go_wp2
               go_ret
               exact ⟨pE, pB⟩
       · rw [if_neg c7] at H
         exact absurd H (by simp)
     · rw [if_neg c6] at H
       exact absurd H (by simp)
end Go.Proofs.YthjlbpgiaehjnaaDoor.QFnCuts
