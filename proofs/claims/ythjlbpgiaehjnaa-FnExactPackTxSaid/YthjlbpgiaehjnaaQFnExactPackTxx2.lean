-- written by this session's program (wip/tools/myprint.py)
import Derived.Test.YthjlbpgiaehjnaaQFnExactPackTxx0
import Derived.Test.YthjlbpgiaehjnaaQFnExactPackTxx1
-- squeezed
namespace Go.Proofs.Ythjlbpgiaehjnaa.QFnExactPackTx
open Go.RowKit Go.Proofs.YthjlbpgiaehjnaaW.PrintWords Go.Proofs.YthjlbpgiaehjnaaW.PrintLast Go.Proofs.YthjlbpgiaehjnaaW.PrintMore
attribute [local go_sem] max2_int min2_int max_two min_two max_three min_three max_four min_four   -- for this text's walks alone
set_option linter.unusedVariables false
set_option linter.unusedSimpArgs false
set_option maxHeartbeats 8000000
set_option maxRecDepth 100000
def slices_ContainsFunc_at_impl_ProgramFault_1.f (k : Nat) (l0 : List Int) : Option (Bool) := (slices_IndexFunc_at_impl_ProgramFault_1.f k l0).bind fun t123 => (some (decide (t123 ≥ 0)))
theorem slices_ContainsFunc_at_impl_ProgramFault_1.mono : ∀ a0 k, LeO (slices_ContainsFunc_at_impl_ProgramFault_1.f k a0) (slices_ContainsFunc_at_impl_ProgramFault_1.f (k + 1) a0) := by
 intro a0 k
 unfold slices_ContainsFunc_at_impl_ProgramFault_1.f
 repeat' with_reducible first | exact slices_IndexFunc_at_impl_ProgramFault_1.mono _ _ | exact LeO.refl _ | exact LeO.none _ | refine LeO.ite ?_ ?_ | refine LeO.bind ?_ (fun _ => ?_)
theorem slices_ContainsFunc_at_impl_ProgramFault_1.calls (k : Nat) (A0 : Option Addr) (c0 : Nat) (l0 : List Int) (r : Bool) (w : World) (hr0 : Kd.C (Kd.int .i64) w A0 l0.length l0) (hc0 : l0.length ≤ c0) (h : slices_ContainsFunc_at_impl_ProgramFault_1.f k l0 = some r) :
 Calls Try.prog 107 #[.slice A0 l0.length c0, .func (.func 111) #[] #[]] w fun e w' => e = .returned (.bool r) ∧ Drawn0 w w' := by
 have HR0 := am hr0; have HC0 := am hc0; clear hr0 hc0
 have H : ((slices_IndexFunc_at_impl_ProgramFault_1.f k l0).bind fun t123 => (some (decide (t123 ≥ 0)))) = some r := h
 clear h
 obtain ⟨t123, A20, H⟩ := bO H
 replace H : (some (decide (t123 ≥ 0))) = some r := H
 have A2 := am A20; clear A20
 obtain rfl := sj H
 go_enter Try.func107, Try.ntmps107
 go_wp2_with (first | ((with_reducible refine gC (f := 141) rfl ?_); refine goesL_ (some 7) rfl rfl Try.func141 (by kernel_rfl) rfl #[.slice A0 l0.length c0, .func (.func 111) #[] #[]] rfl pA ?_; (with_reducible refine (slices_IndexFunc_at_impl_ProgramFault_1.calls k _ _ l0 t123 _ ?side1 ?side2 A2.out).mono ?_); (case side1 => exact pC HR0.out); (case side2 => exact HC0.out); rintro e w' ⟨rfl, ⟨nd, rfl⟩⟩; refine ⟨_, rfl, ?_⟩))
 go_ret
 exact ⟨by first | rfl | (simp; done) | (simp [*]; done), pW⟩
def impl_ProgramFault.f (k : Nat) (l0 : List Int) : Option (Int) := if (l0.length : Int) > 12 then (some 2) else ((slices_ContainsFunc_at_impl_ProgramFault_1.f k l0).bind fun t124 => (if t124 = true then (some 1) else (some 0)))
theorem impl_ProgramFault.mono : ∀ a0 k, LeO (impl_ProgramFault.f k a0) (impl_ProgramFault.f (k + 1) a0) := by
 intro a0 k
 unfold impl_ProgramFault.f
 repeat' with_reducible first | exact slices_ContainsFunc_at_impl_ProgramFault_1.mono _ _ | exact LeO.refl _ | exact LeO.none _ | refine LeO.ite ?_ ?_ | refine LeO.bind ?_ (fun _ => ?_)
theorem impl_ProgramFault.calls (k : Nat) (A0 : Option Addr) (c0 : Nat) (l0 : List Int) (r : Int) (w : World) (hr0 : Kd.C (Kd.int .i64) w A0 l0.length l0) (hc0 : l0.length ≤ c0) (h : impl_ProgramFault.f k l0 = some r) :
 Calls Try.prog 60 #[.slice A0 l0.length c0] w fun e w' => e = .returned (.int .i64 r) ∧ Drawn0 w w' := by
 have HR0 := am hr0; have HC0 := am hc0; clear hr0 hc0
 have H : (if (l0.length : Int) > 12 then (some 2) else ((slices_ContainsFunc_at_impl_ProgramFault_1.f k l0).bind fun t124 => (if t124 = true then (some 1) else (some 0)))) = some r := h
 clear h
 by_cases c2 : (l0.length : Int) > 12
 · rw [if_pos c2] at H
   have c2b0 : decide (12 < (l0.length : Int)) = true := dt c2
   have c2b1 : decide (12 < l0.length) = true := dt (by omega)
   clear c2
   obtain rfl := sj H
   go_enter Try.func60, Try.ntmps60
   go_wp2
   go_ret
   exact ⟨by first | rfl | (simp; done) | (simp [*]; done), pW⟩
 · rw [if_neg c2] at H
   have c2b0 : decide (12 < (l0.length : Int)) = false := decide_eq_false c2
   have c2b1 : decide (12 < l0.length) = false := decide_eq_false (by omega)
   clear c2
   obtain ⟨t124, A30, H⟩ := bO H
   replace H : (if t124 = true then (some 1) else (some 0)) = some r := H
   have A3 := am A30; clear A30
   by_cases c4 : t124 = true
   · subst c4
     have H1 : (some 1) = some r := by rw [if_pos rfl] at H; exact H
     clear H; have H := H1; clear H1
     obtain rfl := sj H
     go_enter Try.func60, Try.ntmps60
     go_wp2_with (first | ((with_reducible refine gC (f := 107) rfl ?_); refine goesL_ (some 7) rfl rfl Try.func107 (by kernel_rfl) rfl #[.slice A0 l0.length c0, .func (.func 111) #[] #[]] rfl pA ?_; (with_reducible refine (slices_ContainsFunc_at_impl_ProgramFault_1.calls k _ _ l0 true _ ?side1 ?side2 A3.out).mono ?_); (case side1 => exact pC HR0.out); (case side2 => exact HC0.out); rintro e w' ⟨rfl, ⟨nd, rfl⟩⟩; refine ⟨_, rfl, ?_⟩))
     go_ret
     exact ⟨by first | rfl | (simp; done) | (simp [*]; done), pW⟩
   · replace c4 := Bool.eq_false_iff.mpr c4
     subst c4
     have H1 : (some 0) = some r := by rw [if_neg (show ¬ (false = true) by decide)] at H; exact H
     clear H; have H := H1; clear H1
     obtain rfl := sj H
     go_enter Try.func60, Try.ntmps60
     go_wp2_with (first | ((with_reducible refine gC (f := 107) rfl ?_); refine goesL_ (some 7) rfl rfl Try.func107 (by kernel_rfl) rfl #[.slice A0 l0.length c0, .func (.func 111) #[] #[]] rfl pA ?_; (with_reducible refine (slices_ContainsFunc_at_impl_ProgramFault_1.calls k _ _ l0 false _ ?side1 ?side2 A3.out).mono ?_); (case side1 => exact pC HR0.out); (case side2 => exact HC0.out); rintro e w' ⟨rfl, ⟨nd, rfl⟩⟩; refine ⟨_, rfl, ?_⟩))
     go_ret
     exact ⟨by first | rfl | (simp; done) | (simp [*]; done), pW⟩
def impl_outSum.l0 : Nat → Int → List (S86) → Int → Int → Option (Int)
 | 0, _, _, _, _ => none
 | k + 1, x3, x6, x7, x8 => if x8 < x7 then (if 0 ≤ x8 then (if x8 < (x6.length : Int) then (impl_outSum.l0 k (wrap64 (x3 + ((rd_T86 x6 x8).f0))) x6 x7 (wrap64 (x8 + 1))) else (none)) else (none)) else (some x3)
def impl_outSum.f (k : Nat) (l0 : List (S86)) : Option (Int) := impl_outSum.l0 k 0 l0 (l0.length : Int) 0
theorem impl_outSum.mono_l : ∀ k, (∀ y0 y1 y2 y3, LeO (impl_outSum.l0 k y0 y1 y2 y3) (impl_outSum.l0 (k + 1) y0 y1 y2 y3))
 | 0 => fun _ _ _ _ r h => by simp [impl_outSum.l0] at h
 | k + 1 => by
  have ih0 := impl_outSum.mono_l k
  · intro y0 y1 y2 y3
    unfold impl_outSum.l0
    repeat' with_reducible first | exact ih0 _ _ _ _ | exact LeO.refl _ | exact LeO.none _ | refine LeO.ite ?_ ?_ | refine LeO.bind ?_ (fun _ => ?_)
theorem impl_outSum.mono : ∀ a0 k, LeO (impl_outSum.f k a0) (impl_outSum.f (k + 1) a0) := by
 intro a0 k
 have ih0 := impl_outSum.mono_l k
 unfold impl_outSum.f
 repeat' with_reducible first | exact ih0 _ _ _ _ | exact LeO.refl _ | exact LeO.none _ | refine LeO.ite ?_ ?_ | refine LeO.bind ?_ (fun _ => ?_)
theorem impl_outSum.calls (k : Nat) (A0 : Option Addr) (c0 : Nat) (l0 : List (S86)) (r : Int) (w : World) (hr0 : Kd.C k86 w A0 l0.length l0) (hc0 : l0.length ≤ c0) (h : impl_outSum.f k l0 = some r) :
 Calls Try.prog 61 #[.slice A0 l0.length c0] w fun e w' => e = .returned (.int .i64 r) ∧ Below w.heap.size w w' := by
 have hu86 := Try.underlying86
 have HR0 := am hr0; have HC0 := am hc0; clear hr0 hc0
 have HB := am (Below.refl w.heap.size w)
 have H : (impl_outSum.l0 k 0 l0 (l0.length : Int) 0) = some r := h
 clear h
 have H' := am H
 clear H
 go_enter Try.func61, Try.ntmps61
 go_wp2
 go_loopg [3, 8] k (fun kq v3 v8 w' => ∃ (x3_1 : Int) (x8_1 : Int), v3 = .int .i64 x3_1 ∧ v8 = .int .i64 x8_1 ∧ Aside0 (impl_outSum.l0 kq x3_1 l0 (l0.length : Int) x8_1 = some r) ∧ Aside0 (kq ≤ k) ∧ Aside0 (Below w.heap.size w w'))
 case atStart => exact ⟨(0), (0), pF, pF, H', ⟨Nat.le_refl _⟩, ⟨pB⟩⟩
 case round =>
  clear H'
  obtain ⟨x3_1, x8_1, rfl, rfl, HA, HK1, HB⟩ := hrel
  cases gk with
  | zero => exact absurd HA.out (by simp [impl_outSum.l0])
  | succ k1 =>
   have H := HA.out
   clear HA
   simp only [impl_outSum.l0] at H
   by_cases c2 : x8_1 < (l0.length : Int)
   · rw [if_pos c2] at H
     have c2b0 : decide (x8_1 < (l0.length : Int)) = true := dt c2
     clear c2
     by_cases c3 : 0 ≤ x8_1
     · rw [if_pos c3] at H
       have c3b0 : decide (0 ≤ x8_1) = true := dt c3
       clear c3
       by_cases c4 : x8_1 < (l0.length : Int)
       · rw [if_pos c4] at H
         have c4b0 : decide (x8_1 < (l0.length : Int)) = true := dt c4
         clear c4
         have H' := am H
         clear H
         have p125 : 0 ≤ (x8_1 : Int) := pD
         have q125 : x8_1 < (l0.length : Int) := pD
         obtain ⟨ad125, A125_1, c125_1, e125, hx125_0, hx125_1, hl125_1, hi125_1⟩ := at_T86 HR0.out x8_1 p125 q125
         cases e125; replace hx125_0 := cb HB hx125_0; replace hx125_1 := cb HB hx125_1; have HR125_1 := am hi125_1; have HC125_1 := am hl125_1; clear hi125_1 hl125_1; replace p125 := eq_true p125; replace q125 := eq_true q125
         go_wp2_with (first | ((with_reducible refine gate_dst (N := 5) rfl ?_); refine box_event ?hg (N := 5) ?hd (cs := #[.int .i64 0, .slice none 0 0]) (t := 86) ?hr ?_; (case hd => rfl); (case hg => rfl); (case hr => first | (go_simp; done) | (go_simp; rfl)); intro gb126 hg w5 hbox hb; have n_ := t4 (bz_ pB hb) (hbox) ((by rw [hg]; exact (bs_ pB) : w.heap.size ≤ gb126)) ((by rw [hg]; exact (bs_ pB) : w.heap.size ≤ gb126)); clear HB; obtain ⟨HB, BK126, GW126, GE126⟩ := n_; clear hb hbox hg; have hcz6_0 : w5.cell? ⟨gb126, 0, none⟩ = some (.int .i64 0) := (blk_cell BK126.out 0).trans rfl; have hcz6_1 : w5.cell? ⟨gb126, 1, none⟩ = some (.slice none 0 0) := (blk_cell BK126.out 1).trans rfl; have hfz6_0 := blk_frozen BK126.out 0; have hfz6_1 := blk_frozen BK126.out 1))
         go_roundg k1
         case measure => have := HK1.out; omega
         case rel => exact ⟨(wrap64 (x3_1 + ((rd_T86 l0 x8_1).f0))), (wrap64 (x8_1 + 1)), pF, pF, H', ⟨by have := HK1.out; omega⟩, ⟨pB⟩⟩
       · rw [if_neg c4] at H
         exact absurd H (by simp)
     · rw [if_neg c3] at H
       exact absurd H (by simp)
   · rw [if_neg c2] at H
     have c2b0 : decide (x8_1 < (l0.length : Int)) = false := decide_eq_false c2
     clear c2
     obtain rfl := sj H
     go_wp2
     go_ret
     exact ⟨pE, pB⟩
end Go.Proofs.Ythjlbpgiaehjnaa.QFnExactPackTx
