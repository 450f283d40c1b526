-- written by this session's program (wip/tools/myprint.py)
import Derived.Test.YtjmdfghljlmfmaaQFnExactHeaderSumx0
import Derived.Test.YtjmdfghljlmfmaaQFnExactHeaderSumx10
import Derived.Test.YtjmdfghljlmfmaaQFnExactHeaderSumx12
-- squeezed
namespace Go.Proofs.Ytjmdfghljlmfmaa.QFnExactHeaderSum
open Go.RowKit Go.Proofs.YtjmdfghljlmfmaaW.PrintWords Go.Proofs.YtjmdfghljlmfmaaW.PrintLast Go.Proofs.YtjmdfghljlmfmaaW.PrintMore
attribute [local go_sem] max2_int min2_int max_two min_two max_three min_three max_four min_four   -- for this text's walks alone
set_option linter.unusedVariables false
set_option linter.unusedSimpArgs false
set_option maxHeartbeats 8000000
set_option maxRecDepth 100000
def slices_ContainsFunc_at_impl_sumsFault_1.f (k : Nat) (l0 : List Int) : Option (Bool) := (slices_IndexFunc_at_impl_sumsFault_1.f k l0).bind fun t435 => (some (decide (t435 ≥ 0)))
theorem slices_ContainsFunc_at_impl_sumsFault_1.mono : ∀ a0 k, LeO (slices_ContainsFunc_at_impl_sumsFault_1.f k a0) (slices_ContainsFunc_at_impl_sumsFault_1.f (k + 1) a0) := by
 intro a0 k
 unfold slices_ContainsFunc_at_impl_sumsFault_1.f
 repeat' with_reducible first | exact slices_IndexFunc_at_impl_sumsFault_1.mono _ _ | exact LeO.refl _ | exact LeO.none _ | refine LeO.ite ?_ ?_ | refine LeO.bind ?_ (fun _ => ?_)
theorem slices_ContainsFunc_at_impl_sumsFault_1.calls (k : Nat) (A0 : Option Addr) (c0 : Nat) (l0 : List Int) (r : Bool) (w : World) (hr0 : Kd.C (Kd.int .i64) w A0 l0.length l0) (hc0 : l0.length ≤ c0) (h : slices_ContainsFunc_at_impl_sumsFault_1.f k l0 = some r) :
 Calls Try.prog 69 #[.slice A0 l0.length c0, .func (.func 87) #[] #[]] w fun e w' => e = .returned (.bool r) ∧ Drawn0 w w' := by
 have HR0 := am hr0; have HC0 := am hc0; clear hr0 hc0
 have H : ((slices_IndexFunc_at_impl_sumsFault_1.f k l0).bind fun t435 => (some (decide (t435 ≥ 0)))) = some r := h
 clear h
 obtain ⟨t435, A20, H⟩ := bO H
 replace H : (some (decide (t435 ≥ 0))) = some r := H
 have A2 := am A20; clear A20
 obtain rfl := sj H
 go_enter Try.func69, Try.ntmps69
 go_wp2_with (first | ((with_reducible refine gC (f := 85) rfl ?_); refine goesL_ (some 7) rfl rfl Try.func85 (by kernel_rfl) rfl #[.slice A0 l0.length c0, .func (.func 87) #[] #[]] rfl pA ?_; (with_reducible refine (slices_IndexFunc_at_impl_sumsFault_1.calls k _ _ l0 t435 _ ?side1 ?side2 A2.out).mono ?_); (case side1 => exact pC HR0.out); (case side2 => exact HC0.out); rintro e w' ⟨rfl, ⟨nd, rfl⟩⟩; refine ⟨_, rfl, ?_⟩))
 go_ret
 exact ⟨by first | rfl | (simp; done) | (simp [*]; done), pW⟩
def impl_sumsFault.f (k : Nat) (l0 : List Int) : Option (Int) := (slices_ContainsFunc_at_impl_sumsFault_1.f k l0).bind fun t436 => (if t436 = true then (some 3) else (some 0))
theorem impl_sumsFault.mono : ∀ a0 k, LeO (impl_sumsFault.f k a0) (impl_sumsFault.f (k + 1) a0) := by
 intro a0 k
 unfold impl_sumsFault.f
 repeat' with_reducible first | exact slices_ContainsFunc_at_impl_sumsFault_1.mono _ _ | exact LeO.refl _ | exact LeO.none _ | refine LeO.ite ?_ ?_ | refine LeO.bind ?_ (fun _ => ?_)
theorem impl_sumsFault.calls (k : Nat) (A0 : Option Addr) (c0 : Nat) (l0 : List Int) (r : Int) (w : World) (hr0 : Kd.C (Kd.int .i64) w A0 l0.length l0) (hc0 : l0.length ≤ c0) (h : impl_sumsFault.f k l0 = some r) :
 Calls Try.prog 74 #[.slice A0 l0.length c0] w fun e w' => e = .returned (.int .i64 r) ∧ Drawn0 w w' := by
 have HR0 := am hr0; have HC0 := am hc0; clear hr0 hc0
 have H : ((slices_ContainsFunc_at_impl_sumsFault_1.f k l0).bind fun t436 => (if t436 = true then (some 3) else (some 0))) = some r := h
 clear h
 obtain ⟨t436, A20, H⟩ := bO H
 replace H : (if t436 = true then (some 3) else (some 0)) = some r := H
 have A2 := am A20; clear A20
 by_cases c3 : t436 = true
 · subst c3
   have H1 : (some 3) = some r := by rw [if_pos rfl] at H; exact H
   clear H; have H := H1; clear H1
   obtain rfl := sj H
   go_enter Try.func74, Try.ntmps74
   go_wp2_with (first | ((with_reducible refine gC (f := 69) rfl ?_); refine goesL_ (some 4) rfl rfl Try.func69 (by kernel_rfl) rfl #[.slice A0 l0.length c0, .func (.func 87) #[] #[]] rfl pA ?_; (with_reducible refine (slices_ContainsFunc_at_impl_sumsFault_1.calls k _ _ l0 true _ ?side1 ?side2 A2.out).mono ?_); (case side1 => exact pC HR0.out); (case side2 => exact HC0.out); rintro e w' ⟨rfl, ⟨nd, rfl⟩⟩; refine ⟨_, rfl, ?_⟩))
   go_ret
   exact ⟨by first | rfl | (simp; done) | (simp [*]; done), pW⟩
 · replace c3 := Bool.eq_false_iff.mpr c3
   subst c3
   have H1 : (some 0) = some r := by rw [if_neg (show ¬ (false = true) by decide)] at H; exact H
   clear H; have H := H1; clear H1
   obtain rfl := sj H
   go_enter Try.func74, Try.ntmps74
   go_wp2_with (first | ((with_reducible refine gC (f := 69) rfl ?_); refine goesL_ (some 4) rfl rfl Try.func69 (by kernel_rfl) rfl #[.slice A0 l0.length c0, .func (.func 87) #[] #[]] rfl pA ?_; (with_reducible refine (slices_ContainsFunc_at_impl_sumsFault_1.calls k _ _ l0 false _ ?side1 ?side2 A2.out).mono ?_); (case side1 => exact pC HR0.out); (case side2 => exact HC0.out); rintro e w' ⟨rfl, ⟨nd, rfl⟩⟩; refine ⟨_, rfl, ?_⟩))
   go_ret
   exact ⟨by first | rfl | (simp; done) | (simp [*]; done), pW⟩
def impl_leavesFault.f (k : Nat) (l0 : List Int) : Option (Int) := (impl_in.f (l0.length : Int) 1 8).bind fun t437 => (if t437 = true then ((impl_sumsFault.f k l0).bind fun t438 => (some t438)) else (some 2))
theorem impl_leavesFault.mono : ∀ a0 k, LeO (impl_leavesFault.f k a0) (impl_leavesFault.f (k + 1) a0) := by
 intro a0 k
 unfold impl_leavesFault.f
 repeat' with_reducible first | exact impl_sumsFault.mono _ _ | exact LeO.refl _ | exact LeO.none _ | refine LeO.ite ?_ ?_ | refine LeO.bind ?_ (fun _ => ?_)
theorem impl_leavesFault.calls (k : Nat) (A0 : Option Addr) (c0 : Nat) (l0 : List Int) (r : Int) (w : World) (hr0 : Kd.C (Kd.int .i64) w A0 l0.length l0) (hc0 : l0.length ≤ c0) (h : impl_leavesFault.f k l0 = some r) :
 Calls Try.prog 52 #[.slice A0 l0.length c0] w fun e w' => e = .returned (.int .i64 r) ∧ Drawn0 w w' := by
 have HR0 := am hr0; have HC0 := am hc0; clear hr0 hc0
 have H : ((impl_in.f (l0.length : Int) 1 8).bind fun t437 => (if t437 = true then ((impl_sumsFault.f k l0).bind fun t438 => (some t438)) else (some 2))) = some r := h
 clear h
 obtain ⟨t437, A20, H⟩ := bO H
 replace H : (if t437 = true then ((impl_sumsFault.f k l0).bind fun t438 => (some t438)) else (some 2)) = some r := H
 have A2 := am A20; clear A20
 by_cases c3 : t437 = true
 · subst c3
   have H1 : ((impl_sumsFault.f k l0).bind fun t438 => (some t438)) = some r := by rw [if_pos rfl] at H; exact H
   clear H; have H := H1; clear H1
   obtain ⟨t438, A40, H⟩ := bO H
   replace H : (some t438) = some r := H
   have A4 := am A40; clear A40
   obtain rfl := sj H
   go_enter Try.func52, Try.ntmps52
   go_wp2_with (first | ((with_reducible refine gC (f := 29) rfl ?_); refine goesL_ (some 5) rfl rfl Try.func29 (by kernel_rfl) rfl #[.int .i64 (l0.length : Int), .int .i64 1, .int .i64 8] rfl pA ?_; (with_reducible refine (impl_in.calls (l0.length : Int) 1 8 true _ A2.out).mono ?_); rintro e w' ⟨rfl, ⟨nd, rfl⟩⟩; refine ⟨_, rfl, ?_⟩) | ((with_reducible refine gC (f := 74) rfl ?_); refine goesL_ (some 8) rfl rfl Try.func74 (by kernel_rfl) rfl #[.slice A0 l0.length c0] rfl pA ?_; (with_reducible refine (impl_sumsFault.calls k _ _ l0 t438 _ ?side1 ?side2 A4.out).mono ?_); (case side1 => exact pC HR0.out); (case side2 => exact HC0.out); rintro e w' ⟨rfl, ⟨nd, rfl⟩⟩; refine ⟨_, rfl, ?_⟩))
   go_ret
   exact ⟨by first | rfl | (simp; done) | (simp [*]; done), pW⟩
 · replace c3 := Bool.eq_false_iff.mpr c3
   subst c3
   have H1 : (some 2) = some r := by rw [if_neg (show ¬ (false = true) by decide)] at H; exact H
   clear H; have H := H1; clear H1
   obtain rfl := sj H
   go_enter Try.func52, Try.ntmps52
   go_wp2_with (first | ((with_reducible refine gC (f := 29) rfl ?_); refine goesL_ (some 5) rfl rfl Try.func29 (by kernel_rfl) rfl #[.int .i64 (l0.length : Int), .int .i64 1, .int .i64 8] rfl pA ?_; (with_reducible refine (impl_in.calls (l0.length : Int) 1 8 false _ A2.out).mono ?_); rintro e w' ⟨rfl, ⟨nd, rfl⟩⟩; refine ⟨_, rfl, ?_⟩))
   go_ret
   exact ⟨by first | rfl | (simp; done) | (simp [*]; done), pW⟩
def impl_high.l0 : Nat → Int → List Int → Int → Option (List Int)
 | 0, _, _, _ => none
 | k + 1, x0, x5, x6 => if x6 ≥ 0 then (if 0 ≤ x6 then (if x6 < (x5.length : Int) then (impl_high.l0 k (x0 / 256) (x5.set (x6 : Int).toNat ((x0) % 256)) (wrap64 (x6 - 1))) else (none)) else (none)) else (some x5)
def impl_high.f (k : Nat) (a0 : Int) (a1 : Int) : Option (List Int) := if 0 ≤ a1 then (if (a1 : Int).toNat ≤ 281474976710656 then (impl_high.l0 k a0 (List.replicate (a1 : Int).toNat 0) (wrap64 (a1 - 1))) else (none)) else (none)
theorem impl_high.mono_l : ∀ k, (∀ y0 y1 y2, LeO (impl_high.l0 k y0 y1 y2) (impl_high.l0 (k + 1) y0 y1 y2))
 | 0 => fun _ _ _ r h => by simp [impl_high.l0] at h
 | k + 1 => by
  have ih0 := impl_high.mono_l k
  · intro y0 y1 y2
    unfold impl_high.l0
    repeat' with_reducible first | exact ih0 _ _ _ | exact LeO.refl _ | exact LeO.none _ | refine LeO.ite ?_ ?_ | refine LeO.bind ?_ (fun _ => ?_)
theorem impl_high.mono : ∀ a0 a1 k, LeO (impl_high.f k a0 a1) (impl_high.f (k + 1) a0 a1) := by
 intro a0 a1 k
 have ih0 := impl_high.mono_l k
 unfold impl_high.f
 repeat' with_reducible first | exact ih0 _ _ _ | exact LeO.refl _ | exact LeO.none _ | refine LeO.ite ?_ ?_ | refine LeO.bind ?_ (fun _ => ?_)
theorem impl_high.calls (k : Nat) (a0 : Int) (a1 : Int) (r : List Int) (w : World) (h : impl_high.f k a0 a1 = some r) :
 Calls Try.prog 55 #[.int .i64 a0, .int .i64 a1] w fun e w' => ∃ v0_ : Value, e = .returned (v0_) ∧ Kd.R (Kd.int .u8) 5 w' w.heap.size (fun _ => True) v0_ r ∧ Below w.heap.size w w' := by
 have HB := am (Below.refl w.heap.size w)
 have H : (if 0 ≤ a1 then (if (a1 : Int).toNat ≤ 281474976710656 then (impl_high.l0 k a0 (List.replicate (a1 : Int).toNat 0) (wrap64 (a1 - 1))) else (none)) else (none)) = some r := h
 clear h
 by_cases c3 : 0 ≤ a1
 · rw [if_pos c3] at H
   have c3b0 := eq_true c3
   have c3b1 : decide (0 ≤ a1) = true := dt c3
   clear c3
   by_cases c4 : (a1 : Int).toNat ≤ 281474976710656
   · rw [if_pos c4] at H
     have c4b0 := eq_true c4
     have c4b1 : decide ((a1 : Int).toNat ≤ 281474976710656) = true := dt c4
     clear c4
     obtain ⟨y439, hy439⟩ : ∃ y_ : List Int, y_ = (List.replicate (a1 : Int).toNat 0) := ⟨_, rfl⟩
     replace H : (impl_high.l0 k a0 y439 (wrap64 (a1 - 1))) = some r := by first | (rw [hy439]; with_reducible exact H) | (have H2_ := (Option.bind_some _ _).symm.trans H; rw [hy439]; with_reducible exact H2_) | (have H2_ := (Option.bind_some _ _).symm.trans H; with_reducible exact H2_) | with_reducible exact H | (rw [hy439]; exact H) | exact H
     have Ny439 := am hy439; clear hy439
     have H' := am H
     clear H
     go_enter Try.func55, Try.ntmps55
     go_wp2_with (first | ((with_reducible refine gate_dst (N := 8) rfl ?_); refine Kd.R_make (Kd.int .u8) _ 5 rfl (N := 8) rfl 71 _ _ rfl a1 rfl rfl Try.underlying71 (.int .u8 0) 1 info5 rfl (by decide) (by omega) 0 (ok := fun _ => True) (okp := fun _ => True) rfl (fun _ hk => hk) trivial (pD) (Nat.le_trans (Nat.mul_le_mul_right _ (pD : a1.toNat ≤ 281474976710656)) (by omega)) (Below.refl _ _) (Nat.le_refl _) ?_; intro v440 w5 ho6 hb hg_ hnew_; clear hg_ hnew_; (first | rw [← Ny439.out] at ho6 | (simp only [Int.reduceToNat] at ho6; rw [← Ny439.out] at ho6)); have n_ := t2 (rL ho6 (bs_ pB)) (bz_ pB hb); clear HB; obtain ⟨HO441, HB⟩ := n_; clear hb ho6))
     go_loopg [0, 6] k (fun kq v0 v6 w' => ∃ (x0_1 : Int) (x5_1 : List Int) (x6_1 : Int), v0 = .int .i64 x0_1 ∧ v6 = .int .i64 x6_1 ∧ Aside0 (impl_high.l0 kq x0_1 x5_1 x6_1 = some r) ∧ Aside0 (kq ≤ k) ∧ Aside0 (Kd.R (Kd.int .u8) 5 w' w.heap.size (fun _ => True) v440 x5_1) ∧ Aside0 (Below w.heap.size w w'))
     case atStart => exact ⟨(a0), (y439), (wrap64 (a1 - 1)), pF, pF, H', ⟨Nat.le_refl _⟩, ⟨(pR HO441)⟩, ⟨pB⟩⟩
     case round =>
      clear H'
      (try clear c3); (try clear c3b0); (try clear c3b1); (try clear c4); (try clear c4b0); (try clear c4b1)
      obtain ⟨x0_1, x5_1, x6_1, rfl, rfl, HA, HK1, HO_5, HB⟩ := hrel
      cases gk with
      | zero => exact absurd HA.out (by simp [impl_high.l0])
      | succ k1 =>
       have H := HA.out
       clear HA
       simp only [impl_high.l0] at H
       by_cases c7 : x6_1 ≥ 0
       · rw [if_pos c7] at H
         have c7b0 : decide (0 ≤ x6_1) = true := dt c7
         clear c7
         by_cases c8 : 0 ≤ x6_1
         · rw [if_pos c8] at H
           have c8b0 : decide (0 ≤ x6_1) = true := dt c8
           clear c8
           by_cases c9 : x6_1 < (x5_1.length : Int)
           · rw [if_pos c9] at H
             have c9b0 : decide (x6_1 < (x5_1.length : Int)) = true := dt c9
             clear c9
             obtain ⟨y442, hy442⟩ : ∃ y_ : List Int, y_ = (x5_1.set (x6_1 : Int).toNat ((x0_1) % 256)) := ⟨_, rfl⟩
             replace H : (impl_high.l0 k1 (x0_1 / 256) y442 (wrap64 (x6_1 - 1))) = some r := by first | (rw [hy442]; with_reducible exact H) | (have H2_ := (Option.bind_some _ _).symm.trans H; rw [hy442]; with_reducible exact H2_) | (have H2_ := (Option.bind_some _ _).symm.trans H; with_reducible exact H2_) | with_reducible exact H | (rw [hy442]; exact H) | exact H
             have Ny442 := am hy442; clear hy442
             have H' := am H
             clear H
             have p10 : 0 ≤ (x6_1 : Int) := pD
             have q10 : (x6_1 : Int) < ((x5_1.length : Int) : Int) := pD
             obtain ⟨go10, co10, eo10, gb10, gl10, cl10, HG10⟩ := Kd.R_form HO_5.out (by omega)
             (first | cases eo10 | (injection eo10 with ea_ en_ ec_; (first | subst ea_ | (injection ea_ with ea_; subst ea_)); subst ec_; clear en_))
             have GB10 := am gb10; have GG10 := am HG10; clear gb10 gl10 HG10
             obtain ⟨hx10_0, hf10_0⟩ := Kd.R_celln 0 HO_5.out (x6_1 : Int) p10 q10
             replace p10 := eq_true p10; replace q10 := eq_true q10
             have HP11 := Kd.R_putg HO_5.out (x6_1 : Int) ((x0_1) % 256)
             go_wp2_with (first | ((with_reducible refine gate_store (t := 5) (p := 19) rfl ?_); refine store_event (t := 5) (p := 19) (v := ?vo_w12) (w1 := (wr.setCell ⟨go10, (x6_1 : Int).toNat, none⟩ (.int .u8 ((x0_1) % 256)))) ?hg ?ho ?hn ?hr ?_; (case ho => rfl); (case hg => rfl); (case hn => rfl); (case hr => first | (go_simp; done) | (go_simp; rfl)); intro w12 hw; have hg : wr.grownBy w12 (some go10) := (by rw [hw]; exact HP11.2); have hp_ : Kd.R (Kd.int .u8) 5 w12 w.heap.size (fun _ => True) (.slice (some ⟨go10, 0, none⟩) x5_1.length co10) y442 := (by rw [hw, Ny442.out]; exact HP11.1); clear HP11; have n_ := t2 (hp_) ((by rw [hw]; exact below_set (HB.out) GB10.out : Below w.heap.size w w12)); clear HO_5 HB; obtain ⟨HO_5, HB⟩ := n_; clear hg hw hp_))
             go_roundg k1
             case measure => have := HK1.out; omega
             case rel => exact ⟨(x0_1 / 256), (y442), (wrap64 (x6_1 - 1)), pF, pF, H', ⟨by have := HK1.out; omega⟩, ⟨(pR HO_5)⟩, ⟨pB⟩⟩
           · rw [if_neg c9] at H
             exact absurd H (by simp)
         · rw [if_neg c8] at H
           exact absurd H (by simp)
       · rw [if_neg c7] at H
         have c7b0 : decide (0 ≤ x6_1) = false := decide_eq_false c7
         clear c7
         obtain rfl := sj H
         go_wp2
         go_ret
         exact ⟨_, pE, (pR HO_5), pB⟩
   · rw [if_neg c4] at H
     exact absurd H (by simp)
 · rw [if_neg c3] at H
   exact absurd H (by simp)
def impl_sumOf.l0 : Nat → Int → List Int → Int → Int → Option (Int)
 | 0, _, _, _, _ => none
 | k + 1, x3, x6, x7, x8 => if x8 < x7 then (if 0 ≤ x8 then (if x8 < (x6.length : Int) then (impl_sumOf.l0 k (Int.tmod (wrap64 ((wrap64 ((wrap64 (33 * x3)) + (wrap64 (rd x6 x8)))) + 1)) 2147483647) x6 x7 (wrap64 (x8 + 1))) else (none)) else (none)) else (some x3)
def impl_sumOf.f (k : Nat) (l0 : List Int) : Option (Int) := impl_sumOf.l0 k 5381 l0 (l0.length : Int) 0
theorem impl_sumOf.mono_l : ∀ k, (∀ y0 y1 y2 y3, LeO (impl_sumOf.l0 k y0 y1 y2 y3) (impl_sumOf.l0 (k + 1) y0 y1 y2 y3))
 | 0 => fun _ _ _ _ r h => by simp [impl_sumOf.l0] at h
 | k + 1 => by
  have ih0 := impl_sumOf.mono_l k
  · intro y0 y1 y2 y3
    unfold impl_sumOf.l0
    repeat' with_reducible first | exact ih0 _ _ _ _ | exact LeO.refl _ | exact LeO.none _ | refine LeO.ite ?_ ?_ | refine LeO.bind ?_ (fun _ => ?_)
theorem impl_sumOf.mono : ∀ a0 k, LeO (impl_sumOf.f k a0) (impl_sumOf.f (k + 1) a0) := by
 intro a0 k
 have ih0 := impl_sumOf.mono_l k
 unfold impl_sumOf.f
 repeat' with_reducible first | exact ih0 _ _ _ _ | exact LeO.refl _ | exact LeO.none _ | refine LeO.ite ?_ ?_ | refine LeO.bind ?_ (fun _ => ?_)
theorem impl_sumOf.calls (k : Nat) (A0 : Option Addr) (c0 : Nat) (l0 : List Int) (r : Int) (w : World) (hr0 : Kd.C (Kd.int .u8) w A0 l0.length l0) (hc0 : l0.length ≤ c0) (h : impl_sumOf.f k l0 = some r) :
 Calls Try.prog 56 #[.slice A0 l0.length c0] w fun e w' => e = .returned (.int .i64 r) ∧ Drawn0 w w' := by
 have HR0 := am hr0; have HC0 := am hc0; clear hr0 hc0
 have H : (impl_sumOf.l0 k 5381 l0 (l0.length : Int) 0) = some r := h
 clear h
 have H' := am H
 clear H
 go_enter Try.func56, Try.ntmps56
 go_wp2
 go_loopg [3, 8] k (fun kq v3 v8 w' => ∃ (x3_1 : Int) (x8_1 : Int), v3 = .int .i64 x3_1 ∧ v8 = .int .i64 x8_1 ∧ Aside0 (impl_sumOf.l0 kq x3_1 l0 (l0.length : Int) x8_1 = some r) ∧ Aside0 (kq ≤ k) ∧ Drawn0 w w')
 case atStart => exact ⟨(5381), (0), pF, pF, H', ⟨Nat.le_refl _⟩, pW⟩
 case round =>
  clear H'
  obtain ⟨x3_1, x8_1, rfl, rfl, HA, HK1, ⟨m1, rfl⟩⟩ := hrel
  cases gk with
  | zero => exact absurd HA.out (by simp [impl_sumOf.l0])
  | succ k1 =>
   have H := HA.out
   clear HA
   simp only [impl_sumOf.l0] at H
   by_cases c2 : x8_1 < (l0.length : Int)
   · rw [if_pos c2] at H
     have c2b0 : decide (x8_1 < (l0.length : Int)) = true := dt c2
     clear c2
     by_cases c3 : 0 ≤ x8_1
     · rw [if_pos c3] at H
       have c3b0 : decide (0 ≤ x8_1) = true := dt c3
       clear c3
       by_cases c4 : x8_1 < (l0.length : Int)
       · rw [if_pos c4] at H
         have c4b0 : decide (x8_1 < (l0.length : Int)) = true := dt c4
         clear c4
         have H' := am H
         clear H
         have p443 : 0 ≤ (x8_1 : Int) := pD
         have q443 : x8_1 < (l0.length : Int) := pD
         obtain ⟨ad443, e443, hx443_0⟩ := Kd.at_int HR0.out x8_1 p443 q443
         cases e443; replace p443 := eq_true p443; replace q443 := eq_true q443
         go_wp2
         go_roundg k1
         case measure => have := HK1.out; omega
         case rel => exact ⟨(Int.tmod (wrap64 ((wrap64 ((wrap64 (33 * x3_1)) + (wrap64 (rd l0 x8_1)))) + 1)) 2147483647), (wrap64 (x8_1 + 1)), pF, pF, H', ⟨by have := HK1.out; omega⟩, pW⟩
       · rw [if_neg c4] at H
         exact absurd H (by simp)
     · rw [if_neg c3] at H
       exact absurd H (by simp)
   · rw [if_neg c2] at H
     have c2b0 : decide (x8_1 < (l0.length : Int)) = false := decide_eq_false c2
     clear c2
     obtain rfl := sj H
     go_wp2
     go_ret
     exact ⟨by first | rfl | (simp; done) | (simp [*]; done), pW⟩
def impl_sumInts.l0 : Nat → List Int → List Int → Int → Int → Option (Int)
 | 0, _, _, _, _ => none
 | k + 1, x3, x7, x8, x9 => if x9 < x8 then (if 0 ≤ x9 then (if x9 < (x7.length : Int) then ((impl_high.f k (rd x7 x9) 4).bind fun t448 => (if x3.length + t448.length < 140737488355328 then (impl_sumInts.l0 k (x3 ++ t448) x7 x8 (wrap64 (x9 + 1))) else (none))) else (none)) else (none)) else ((impl_sumOf.f k x3).bind fun t454 => (some t454))
def impl_sumInts.f (k : Nat) (l0 : List Int) : Option (Int) := impl_sumInts.l0 k (([] : List Int)) l0 (l0.length : Int) 0
theorem impl_sumInts.mono_l : ∀ k, (∀ y0 y1 y2 y3, LeO (impl_sumInts.l0 k y0 y1 y2 y3) (impl_sumInts.l0 (k + 1) y0 y1 y2 y3))
 | 0 => fun _ _ _ _ r h => by simp [impl_sumInts.l0] at h
 | k + 1 => by
  have ih0 := impl_sumInts.mono_l k
  · intro y0 y1 y2 y3
    unfold impl_sumInts.l0
    repeat' with_reducible first | exact ih0 _ _ _ _ | exact impl_high.mono _ _ _ | exact impl_sumOf.mono _ _ | exact LeO.refl _ | exact LeO.none _ | refine LeO.ite ?_ ?_ | refine LeO.bind ?_ (fun _ => ?_)
theorem impl_sumInts.mono : ∀ a0 k, LeO (impl_sumInts.f k a0) (impl_sumInts.f (k + 1) a0) := by
 intro a0 k
 have ih0 := impl_sumInts.mono_l k
 unfold impl_sumInts.f
 repeat' with_reducible first | exact ih0 _ _ _ _ | exact impl_high.mono _ _ _ | exact impl_sumOf.mono _ _ | exact LeO.refl _ | exact LeO.none _ | refine LeO.ite ?_ ?_ | refine LeO.bind ?_ (fun _ => ?_)
theorem impl_sumInts.calls (k : Nat) (A0 : Option Addr) (c0 : Nat) (l0 : List Int) (r : Int) (w : World) (hr0 : Kd.C (Kd.int .i64) w A0 l0.length l0) (hc0 : l0.length ≤ c0) (h : impl_sumInts.f k l0 = some r) :
 Calls Try.prog 35 #[.slice A0 l0.length c0] w fun e w' => e = .returned (.int .i64 r) ∧ Below w.heap.size w w' := by
 have HR0 := am hr0; have HC0 := am hc0; clear hr0 hc0
 have HB := am (Below.refl w.heap.size w)
 have H : (impl_sumInts.l0 k (([] : List Int)) l0 (l0.length : Int) 0) = some r := h
 clear h
 obtain ⟨y444, hy444⟩ : ∃ y_ : List Int, y_ = (([] : List Int)) := ⟨_, rfl⟩
 replace H : (impl_sumInts.l0 k y444 l0 (l0.length : Int) 0) = some r := by first | (rw [hy444]; with_reducible exact H) | (have H2_ := (Option.bind_some _ _).symm.trans H; rw [hy444]; with_reducible exact H2_) | (have H2_ := (Option.bind_some _ _).symm.trans H; with_reducible exact H2_) | with_reducible exact H | (rw [hy444]; exact H) | exact H
 have Ny444 := am hy444; clear hy444
 have H' := am H
 clear H
 go_enter Try.func35, Try.ntmps35
 go_wp2_with (first | ((with_reducible refine gate_dst (N := 6) rfl ?_); refine Kd.R_lit (Kd.int .u8) _ 5 ?hg (N := 6) ?hd (xs := ([] : List Int)) (inner := []) (ok := fun _ => True) (okp := fun _ => True) ?hr ?hp (fun _ hk => hk) trivial (Below.refl _ _) (Nat.le_refl _) (by simp) ?_; (case hd => rfl); (case hg => rfl); (case hr => first | (go_simp; done) | (go_simp; rfl)); (case hp => exact (Reps.none _ _)); intro v445 w2 ho3 hb hg_ hnew_; clear hg_ hnew_; (first | rw [← Ny444.out] at ho3 | (simp only [Int.reduceToNat] at ho3; rw [← Ny444.out] at ho3)); have n_ := t2 (rL ho3 (bs_ pB)) (bz_ pB hb); clear HB; obtain ⟨HO446, HB⟩ := n_; clear hb ho3))
 go_loopg [3, 9] k (fun kq v3 v9 w' => ∃ (x3_1 : List Int) (x9_1 : Int), v9 = .int .i64 x9_1 ∧ Aside0 (impl_sumInts.l0 kq x3_1 l0 (l0.length : Int) x9_1 = some r) ∧ Aside0 (kq ≤ k) ∧ Aside0 (Kd.R (Kd.int .u8) 5 w' w.heap.size (fun _ => True) v3 x3_1) ∧ Aside0 (Below w.heap.size w w'))
 case atStart => exact ⟨(y444), (0), pF, H', ⟨Nat.le_refl _⟩, ⟨(pR HO446)⟩, ⟨pB⟩⟩
 case round =>
  clear H'
  obtain ⟨x3_1, x9_1, rfl, HA, HK1, HO_3, HB⟩ := hrel
  cases gk with
  | zero => exact absurd HA.out (by simp [impl_sumInts.l0])
  | succ k1 =>
   have H := HA.out
   clear HA
   simp only [impl_sumInts.l0] at H
   by_cases c4 : x9_1 < (l0.length : Int)
   · rw [if_pos c4] at H
     have c4b0 : decide (x9_1 < (l0.length : Int)) = true := dt c4
     clear c4
     by_cases c5 : 0 ≤ x9_1
     · rw [if_pos c5] at H
       have c5b0 : decide (0 ≤ x9_1) = true := dt c5
       clear c5
       by_cases c6 : x9_1 < (l0.length : Int)
       · rw [if_pos c6] at H
         have c6b0 : decide (x9_1 < (l0.length : Int)) = true := dt c6
         clear c6
         obtain ⟨t448, A70, H⟩ := bO H
         replace H : (if x3_1.length + t448.length < 140737488355328 then (impl_sumInts.l0 k1 (x3_1 ++ t448) l0 (l0.length : Int) (wrap64 (x9_1 + 1))) else (none)) = some r := H
         have A7 := am A70; clear A70
         by_cases c8 : x3_1.length + t448.length < 140737488355328
         · rw [if_pos c8] at H
           have LMc8 := am c8; clear c8
           obtain ⟨y451, hy451⟩ : ∃ y_ : List Int, y_ = (x3_1 ++ t448) := ⟨_, rfl⟩
           replace H : (impl_sumInts.l0 k1 y451 l0 (l0.length : Int) (wrap64 (x9_1 + 1))) = some r := by first | (rw [hy451]; with_reducible exact H) | (have H2_ := (Option.bind_some _ _).symm.trans H; rw [hy451]; with_reducible exact H2_) | (have H2_ := (Option.bind_some _ _).symm.trans H; with_reducible exact H2_) | with_reducible exact H | (rw [hy451]; exact H) | exact H
           have Ny451 := am hy451; clear hy451
           have H' := am H
           clear H
           have p447 : 0 ≤ (x9_1 : Int) := pD
           have q447 : x9_1 < (l0.length : Int) := pD
           obtain ⟨ad447, e447, hx447_0⟩ := Kd.at_int HR0.out x9_1 p447 q447
           cases e447; replace hx447_0 := cb HB hx447_0; replace p447 := eq_true p447; replace q447 := eq_true q447
           go_wp2_with (first | ((with_reducible refine gC (f := 55) rfl ?_); refine goesL_ (some 15) rfl rfl Try.func55 (by kernel_rfl) rfl #[.int .i64 (rd l0 x9_1), .int .i64 4] rfl pA ?_; (with_reducible refine (impl_high.calls k1 (rd l0 x9_1) 4 t448 _ A7.out).mono ?_); rintro e w9 ⟨v449, rfl, ho0, hb⟩; refine ⟨_, rfl, ?_⟩; have n_ := t3 (rE (pR HO_3) (rB ho0) hb) (rL (rW ho0 (Kd.R_lt (pR HO_3))) (bs_ pB)) (bz_ pB hb); clear HO_3 HB; obtain ⟨HO_3, HO450, HB⟩ := n_; (try clear hb); (try clear ho0); obtain ⟨Ao11, co11, eo11⟩ := rS HO450.out; subst eo11) | ((with_reducible refine gB (b := .append) (xs := #[.tmp 13, .tmp 15]) rfl ?_); at_builtin; refine Kd.R_append_rows (Kd.int .u8) (w0 := w) w.heap.size rfl (.tmp 13) (.tmp 15) 71 5 (.int .u8 0) 1 rfl Try.underlying71 info5 rfl (by decide) (by omega) u3 x3_1 t448 _ _ _ (fun k_ => some k_ ≠ (.slice Ao11 t448.length co11 : Value).ownBlock) (fun _ => False) rfl rfl ?aO ?aR (fun _ _ h => h) (fun _ h => h.elim) ?aF ?aB ?aS ?aL ?_; (case aR => exact pC (rr HO450.out).2.2); (case aB => exact pB); (case aF => exact (fun k_ hk => Kd.fresh' (Kd.R_lt (pR HO450)) k_ hk)); (case aO => exact (pT (Kd.R_mono HO_3.out (fun _ hk => hk.2)))); (case aS => exact (bs_ pB)); (case aL => have := LMc8.out; omega); intro v452 w10 ho hb hg hat; rw [← Ny451.out] at ho; have n_ := t3 (Kd.R_after (ok := (fun _ => True)) (pR HO450) hg hat) (hb) (ho); clear HO450 HB HO_3; obtain ⟨HO450, HB, HO453⟩ := n_; clear ho hb hg hat))
           go_roundg k1
           case measure => have := HK1.out; omega
           case rel => exact ⟨(y451), (wrap64 (x9_1 + 1)), pF, H', ⟨by have := HK1.out; omega⟩, ⟨(pT (Kd.R_mono HO453.out (fun _ hk => trivial)))⟩, ⟨pB⟩⟩
         · rw [if_neg c8] at H
           exact absurd H (by simp)
       · rw [if_neg c6] at H
         exact absurd H (by simp)
     · rw [if_neg c5] at H
       exact absurd H (by simp)
   · rw [if_neg c4] at H
     have c4b0 : decide (x9_1 < (l0.length : Int)) = false := decide_eq_false c4
     clear c4
     obtain ⟨t454, A120, H⟩ := bO H
     replace H : (some t454) = some r := H
     have A12 := am A120; clear A120
     obtain rfl := sj H
     obtain ⟨Ao13, co13, eo13⟩ := rS HO_3.out
     subst eo13
     go_wp2_with (first | ((with_reducible refine gC (f := 56) rfl ?_); refine goesL_ (some 19) rfl rfl Try.func56 (by kernel_rfl) rfl #[.slice Ao13 x3_1.length co13] rfl pA ?_; (with_reducible refine (impl_sumOf.calls k1 _ _ x3_1 t454 _ ?side1 ?side2 A12.out).mono ?_); (case side1 => exact pC (rr HO_3.out).2.2); (case side2 => exact (rr HO_3.out).2.1); rintro e w' ⟨rfl, ⟨nd, rfl⟩⟩; refine ⟨_, rfl, ?_⟩))
     go_ret
     exact ⟨pE, pB⟩
def impl_partner.f (l0 : List Int) (a1 : Int) : Option (Int) := if (Go.bits .xor .i64 a1 1) < (l0.length : Int) then (if 0 ≤ (Go.bits .xor .i64 a1 1) then (some (rd l0 (Go.bits .xor .i64 a1 1))) else (none)) else (if 0 ≤ a1 then (if a1 < (l0.length : Int) then (some (rd l0 a1)) else (none)) else (none))
theorem impl_partner.calls (A0 : Option Addr) (c0 : Nat) (l0 : List Int) (a1 : Int) (r : Int) (w : World) (hr0 : Kd.C (Kd.int .i64) w A0 l0.length l0) (hc0 : l0.length ≤ c0) (h : impl_partner.f l0 a1 = some r) :
 Calls Try.prog 75 #[.slice A0 l0.length c0, .int .i64 a1] w fun e w' => e = .returned (.int .i64 r) ∧ Drawn0 w w' := by
 have HR0 := am hr0; have HC0 := am hc0; clear hr0 hc0
 have H : (if (Go.bits .xor .i64 a1 1) < (l0.length : Int) then (if 0 ≤ (Go.bits .xor .i64 a1 1) then (some (rd l0 (Go.bits .xor .i64 a1 1))) else (none)) else (if 0 ≤ a1 then (if a1 < (l0.length : Int) then (some (rd l0 a1)) else (none)) else (none))) = some r := h
 clear h
 by_cases c3 : (Go.bits .xor .i64 a1 1) < (l0.length : Int)
 · rw [if_pos c3] at H
   have c3b0 : decide ((Go.bits .xor .i64 a1 1) < (l0.length : Int)) = true := dt c3
   clear c3
   by_cases c4 : 0 ≤ (Go.bits .xor .i64 a1 1)
   · rw [if_pos c4] at H
     have c4b0 : decide (0 ≤ (Go.bits .xor .i64 a1 1)) = true := dt c4
     clear c4
     obtain rfl := sj H
     have p455 : 0 ≤ ((Go.bits .xor .i64 a1 1) : Int) := pD
     have q455 : (Go.bits .xor .i64 a1 1) < (l0.length : Int) := pD
     obtain ⟨ad455, e455, hx455_0⟩ := Kd.at_int HR0.out (Go.bits .xor .i64 a1 1) p455 q455
     cases e455; replace p455 := eq_true p455; replace q455 := eq_true q455
     go_enter Try.func75, Try.ntmps75
     go_wp2
     go_ret
     exact ⟨by first | rfl | (simp; done) | (simp [*]; done), pW⟩
   · rw [if_neg c4] at H
     exact absurd H (by simp)
 · rw [if_neg c3] at H
   have c3b0 : decide ((Go.bits .xor .i64 a1 1) < (l0.length : Int)) = false := decide_eq_false c3
   clear c3
   by_cases c5 : 0 ≤ a1
   · rw [if_pos c5] at H
     have c5b0 : decide (0 ≤ a1) = true := dt c5
     clear c5
     by_cases c6 : a1 < (l0.length : Int)
     · rw [if_pos c6] at H
       have c6b0 : decide (a1 < (l0.length : Int)) = true := dt c6
       clear c6
       obtain rfl := sj H
       have p456 : 0 ≤ (a1 : Int) := pD
       have q456 : a1 < (l0.length : Int) := pD
       obtain ⟨ad456, e456, hx456_0⟩ := Kd.at_int HR0.out a1 p456 q456
       cases e456; replace p456 := eq_true p456; replace q456 := eq_true q456
       go_enter Try.func75, Try.ntmps75
       go_wp2
       go_ret
       exact ⟨by first | rfl | (simp; done) | (simp [*]; done), pW⟩
     · rw [if_neg c6] at H
       exact absurd H (by simp)
   · rw [if_neg c5] at H
     exact absurd H (by simp)
def impl_above.l0 : Nat → List Int → List Int → Int → Option (List Int)
 | 0, _, _, _ => none
 | k + 1, x0, x3, x4 => if x4 < (x0.length : Int) then (if 0 ≤ x4 then ((impl_partner.f x0 x4).bind fun t461 => ((impl_sumInts.f k (([rd x0 x4, t461] : List Int))).bind fun t465 => (if x3.length < 17592186044416 then (impl_above.l0 k x0 (x3 ++ [t465]) (wrap64 (x4 + 2))) else (none)))) else (none)) else (some x3)
def impl_above.f (k : Nat) (l0 : List Int) : Option (List Int) := impl_above.l0 k l0 (([] : List Int)) 0
theorem impl_above.mono_l : ∀ k, (∀ y0 y1 y2, LeO (impl_above.l0 k y0 y1 y2) (impl_above.l0 (k + 1) y0 y1 y2))
 | 0 => fun _ _ _ r h => by simp [impl_above.l0] at h
 | k + 1 => by
  have ih0 := impl_above.mono_l k
  · intro y0 y1 y2
    unfold impl_above.l0
    repeat' with_reducible first | exact ih0 _ _ _ | exact impl_sumInts.mono _ _ | exact LeO.refl _ | exact LeO.none _ | refine LeO.ite ?_ ?_ | refine LeO.bind ?_ (fun _ => ?_)
theorem impl_above.mono : ∀ a0 k, LeO (impl_above.f k a0) (impl_above.f (k + 1) a0) := by
 intro a0 k
 have ih0 := impl_above.mono_l k
 unfold impl_above.f
 repeat' with_reducible first | exact ih0 _ _ _ | exact impl_sumInts.mono _ _ | exact LeO.refl _ | exact LeO.none _ | refine LeO.ite ?_ ?_ | refine LeO.bind ?_ (fun _ => ?_)
def impl_above.T5 : Bool × List (List Nat × List Nat) := (true, [([], []), ([], []), ([], []), ([1, 2], [1, 2]), ([3], [3]), ([], []), ([], []), ([5, 6], [5, 6]), ([4, 7], [4, 7]), ([8, 7], [8]), ([9], [9]), ([0, 10, 9], [0, 10]), ([11, 11, 0, 1, 2, 3, 4, 5, 6, 7, 8, 9, 10, 11], [0, 11])])
def impl_above.B5 : List Nat := [0, 0, 0, 6, 14, 0, 0, 96, 254, 510, 1022, 2047, 4095]
theorem impl_above.tab5 : rtab .any (opsOf Try.f53 5) = impl_above.T5 := by kernel_rfl
theorem impl_above.bits5 : waitsOk impl_above.T5.2 impl_above.B5 = true := by kernel_rfl
theorem impl_above.calls (k : Nat) (A0 : Option Addr) (c0 : Nat) (l0 : List Int) (r : List Int) (w : World) (hr0 : Kd.C (Kd.int .i64) w A0 l0.length l0) (hc0 : l0.length ≤ c0) (h : impl_above.f k l0 = some r) :
 Calls Try.prog 53 #[.slice A0 l0.length c0] w fun e w' => ∃ v0_ : Value, e = .returned (v0_) ∧ Kd.R (Kd.int .i64) 2 w' w.heap.size (fun _ => True) v0_ r ∧ Below w.heap.size w w' := by
 have HR0 := am hr0; have HC0 := am hc0; clear hr0 hc0
 have HB := am (Below.refl w.heap.size w)
 have H : (impl_above.l0 k l0 (([] : List Int)) 0) = some r := h
 clear h
 obtain ⟨y457, hy457⟩ : ∃ y_ : List Int, y_ = (([] : List Int)) := ⟨_, rfl⟩
 replace H : (impl_above.l0 k l0 y457 0) = some r := by first | (rw [hy457]; with_reducible exact H) | (have H2_ := (Option.bind_some _ _).symm.trans H; rw [hy457]; with_reducible exact H2_) | (have H2_ := (Option.bind_some _ _).symm.trans H; with_reducible exact H2_) | with_reducible exact H | (rw [hy457]; exact H) | exact H
 have Ny457 := am hy457; clear hy457
 have H' := am H
 clear H
 go_enter Try.func53, Try.ntmps53
 go_wp2_with (first | ((with_reducible refine gate_dst (N := 5) rfl ?_); refine Kd.R_lit (Kd.int .i64) _ 2 ?hg (N := 5) ?hd (xs := ([] : List Int)) (inner := []) (ok := fun _ => True) (okp := fun _ => True) ?hr ?hp (fun _ hk => hk) trivial (Below.refl _ _) (Nat.le_refl _) (by simp) ?_; (case hd => rfl); (case hg => rfl); (case hr => first | (go_simp; done) | (go_simp; rfl)); (case hp => exact (Reps.none _ _)); intro v458 w2 ho3 hb hg_ hnew_; clear hg_ hnew_; (first | rw [← Ny457.out] at ho3 | (simp only [Int.reduceToNat] at ho3; rw [← Ny457.out] at ho3)); have n_ := t2 (rL ho3 (bs_ pB)) (bz_ pB hb); clear HB; obtain ⟨HO459, HB⟩ := n_; clear hb ho3))
 go_loopg [3, 4] k (fun kq v3 v4 w' => ∃ (x3_1 : List Int) (x4_1 : Int), v4 = .int .i64 x4_1 ∧ Aside0 (impl_above.l0 kq l0 x3_1 x4_1 = some r) ∧ Aside0 (kq ≤ k) ∧ Aside0 (Kd.R (Kd.int .i64) 2 w' w.heap.size (fun _ => True) v3 x3_1) ∧ Aside0 (Below w.heap.size w w'))
 case atStart => exact ⟨(y457), (0), pF, H', ⟨Nat.le_refl _⟩, ⟨(pR HO459)⟩, ⟨pB⟩⟩
 case round =>
  clear H'
  obtain ⟨x3_1, x4_1, rfl, HA, HK1, HO_3, HB⟩ := hrel
  cases gk with
  | zero => exact absurd HA.out (by simp [impl_above.l0])
  | succ k1 =>
   have H := HA.out
   clear HA
   simp only [impl_above.l0] at H
   by_cases c4 : x4_1 < (l0.length : Int)
   · rw [if_pos c4] at H
     have c4b0 : decide (x4_1 < (l0.length : Int)) = true := dt c4
     clear c4
     by_cases c5 : 0 ≤ x4_1
     · rw [if_pos c5] at H
       have c5b0 : decide (0 ≤ x4_1) = true := dt c5
       clear c5
       obtain ⟨t461, A60, H⟩ := bO H
       replace H : ((impl_sumInts.f k1 (([rd l0 x4_1, t461] : List Int))).bind fun t465 => (if x3_1.length < 17592186044416 then (impl_above.l0 k1 l0 (x3_1 ++ [t465]) (wrap64 (x4_1 + 2))) else (none))) = some r := H
       have A6 := am A60; clear A60
       obtain ⟨y462, hy462⟩ : ∃ y_ : List Int, y_ = (([rd l0 x4_1, t461] : List Int)) := ⟨_, rfl⟩
       replace H : ((impl_sumInts.f k1 y462).bind fun t465 => (if x3_1.length < 17592186044416 then (impl_above.l0 k1 l0 (x3_1 ++ [t465]) (wrap64 (x4_1 + 2))) else (none))) = some r := by first | (rw [hy462]; with_reducible exact H) | (have H2_ := (Option.bind_some _ _).symm.trans H; rw [hy462]; with_reducible exact H2_) | (have H2_ := (Option.bind_some _ _).symm.trans H; with_reducible exact H2_) | with_reducible exact H | (rw [hy462]; exact H) | exact H
       have Ny462 := am hy462; clear hy462
       obtain ⟨t465, A70, H⟩ := bO H
       replace H : (if x3_1.length < 17592186044416 then (impl_above.l0 k1 l0 (x3_1 ++ [t465]) (wrap64 (x4_1 + 2))) else (none)) = some r := H
       have A7 := am A70; clear A70
       by_cases c8 : x3_1.length < 17592186044416
       · rw [if_pos c8] at H
         have LMc8 := am c8; clear c8
         obtain ⟨y466, hy466⟩ : ∃ y_ : List Int, y_ = (x3_1 ++ [t465]) := ⟨_, rfl⟩
         replace H : (impl_above.l0 k1 l0 y466 (wrap64 (x4_1 + 2))) = some r := by first | (rw [hy466]; with_reducible exact H) | (have H2_ := (Option.bind_some _ _).symm.trans H; rw [hy466]; with_reducible exact H2_) | (have H2_ := (Option.bind_some _ _).symm.trans H; with_reducible exact H2_) | with_reducible exact H | (rw [hy466]; exact H) | exact H
         have Ny466 := am hy466; clear hy466
         have H' := am H
         clear H
         try go_wp2
         have n_ := t2 (Kd.R_drew HO_3.out) (below_drew1 HB.out)
         clear HO_3 HB; obtain ⟨HO_3, HB⟩ := n_
         have p460 : 0 ≤ (x4_1 : Int) := pD
         have q460 : x4_1 < (l0.length : Int) := pD
         obtain ⟨ad460, e460, hx460_0⟩ := Kd.at_int HR0.out x4_1 p460 q460
         have hw460_0 := hx460_0
         cases e460; replace hx460_0 := cb HB hx460_0; replace p460 := eq_true p460; replace q460 := eq_true q460
         refine start_ (n := 13) (S := fun w' => w'.cell? (ad460.add (x4_1).toNat) = some (.int .i64 (rd l0 x4_1))) (ds := []) #[false, false, false, false, false, false, false, false, false, false, false, false, false] (by kernel_rfl) rfl rfl ((cb HB hw460_0)) (fun hHeld => ?_); refine with_tabW impl_above.tab5 impl_above.bits5 (fun HT_ HW_ => ?_)
         generalize wr.drew = w9 at HO_3 HB hx460_0 hHeld ⊢
         refine rP 0 (some 12) #[true, false, false, false, false, false, false, false, false, false, false, false, false] (any_of HT_.out (by kernel_rfl)) ?_
         refine rP 1 (some 13) #[true, true, false, false, false, false, false, false, false, false, false, false, false] (any_of HT_.out (by kernel_rfl)) ?_
         refine rP 2 (some 14) #[true, true, true, false, false, false, false, false, false, false, false, false, false] (any_of HT_.out (by kernel_rfl)) ?_
         refine rP 3 (some 15) #[true, true, true, true, false, false, false, false, false, false, false, false, false] (any_of HT_.out (by kernel_rfl)) ?_
         refine rP 5 (some 17) #[true, true, true, true, false, true, false, false, false, false, false, false, false] (any_of HT_.out (by kernel_rfl)) ?_
         refine rP 6 (some 18) #[true, true, true, true, false, true, true, false, false, false, false, false, false] (any_of HT_.out (by kernel_rfl)) ?_
         refine rT 4 (some 16) #[true, true, true, true, true, true, true, false, false, false, false, false, false] (take_ofW HT_.out HW_.out (by kernel_rfl)) hHeld ?_
         refine one_ (i := 7) (N := some 19) #[true, true, true, true, true, true, true, true, false, false, false, false, false] rfl rfl (one_of HT_.out (by kernel_rfl)) (by decide) (fun K hK => ?_)
         refine goes_ Try.func75 (by kernel_rfl) rfl #[.slice (some ad460) l0.length c0, .int .i64 x4_1] (by rfl) rfl rfl pA ?_
         with_reducible refine (impl_partner.calls _ _ l0 x4_1 t461 _ ?side1 ?side2 A6.out).mono ?_
         (case side1 => exact pC (Kd.C_below HR0.out HB.out))
         (case side2 => exact HC0.out)
         rintro e w' ⟨rfl, ⟨nd, rfl⟩⟩
         refine ⟨_, rfl, ?_⟩
         refine hK.out _ _ ((cb HB hw460_0)) (fun hHeld => ?_)
         clear hK K
         refine rN ?_
         refine one_ (i := 8) (N := some 20) #[true, true, true, true, true, true, true, true, true, false, false, false, false] rfl rfl (one_of HT_.out (by kernel_rfl)) (by decide) (fun K hK => ?_)
         refine Kd.R_lit_step (Kd.int .i64) _ 2 ?hg (N := 20) ?hd (xs := ([rd l0 x4_1, t461] : List Int)) (inner := [.int .i64 (rd l0 x4_1), .int .i64 t461]) (ok := fun _ => True) (okp := fun _ => True) ?hr ?hp (fun _ hk => hk) trivial (Below.refl _ _) (Nat.le_refl _) (by simp) ?_; (case hd => rfl); (case hg => rfl); (case hr => first | (go_simp; done) | (go_simp; rfl)); (case hp => exact (Reps.one (show Kd.M (Kd.int .i64) _ _ _ (rd l0 x4_1) [.int .i64 (rd l0 x4_1)] from rfl) (Reps.one (show Kd.M (Kd.int .i64) _ _ _ t461 [.int .i64 t461] from rfl) (Reps.none _ _))))
         intro v463 w10 ho11 hb hg_ hnew_
         clear hg_ hnew_
         (first | rw [← Ny462.out] at ho11 | (simp only [Int.reduceToNat] at ho11; rw [← Ny462.out] at ho11))
         have n_ := t3 (rE (pR HO_3) (rB ho11) hb) (rL (rW ho11 (Kd.R_lt (pR HO_3))) (bs_ pB)) (bz_ pB hb)
         clear HO_3 HB; obtain ⟨HO_3, HO464, HB⟩ := n_; clear hb ho11
         obtain ⟨Ao12, co12, eo12⟩ := rS HO464.out
         (first | subst eo12 | (injection eo12 with f1_ f2_ f3_; have f4_ := f1_.symm; have f5_ := f3_.symm; clear f1_ f2_ f3_; subst f4_; subst f5_))
         refine hK.out _ _ ((cb HB hw460_0)) (fun hHeld => ?_)
         clear hK K
         refine rN ?_
         refine one_ (i := 9) (N := some 21) #[true, true, true, true, true, true, true, true, true, true, false, false, false] rfl rfl (one_of HT_.out (by kernel_rfl)) (by decide) (fun K hK => ?_)
         refine goes_ Try.func35 (by kernel_rfl) rfl #[.slice Ao12 y462.length co12] (by rfl) rfl rfl pA ?_
         with_reducible refine (impl_sumInts.calls k1 _ _ y462 t465 _ ?side1 ?side2 A7.out).mono ?_
         (case side1 => exact pC (rr HO464.out).2.2)
         (case side2 => exact (rr HO464.out).2.1)
         rintro e w13 ⟨rfl, hb⟩
         refine ⟨_, rfl, ?_⟩
         have n_ := t3 (Kd.R_below (pR HO_3) hb) (Kd.R_below (pR HO464) hb) (bz_ pB hb)
         clear HO_3 HO464 HB; obtain ⟨HO_3, HO464, HB⟩ := n_; (try clear hb); (try clear hb2); (try clear hk); (try clear hi)
         refine hK.out _ _ ((cb HB hw460_0)) (fun hHeld => ?_)
         clear hK K
         refine rN ?_
         refine one_ (i := 10) (N := some 22) #[true, true, true, true, true, true, true, true, true, true, true, false, false] rfl rfl (one_of HT_.out (by kernel_rfl)) (by decide) (fun K hK => ?_)
         refine value_ (w1 := ?_) (v := ?_) (by rfl) rfl ?_ ?_
         rotate_left 2
         · go_simp
           constructor
           · rfl
           · rfl
         refine hK.out _ _ ((World.cell?_alloc_lt _ _ _ (World.block_lt_of_cell? _ _ ((cb HB hw460_0)))).trans ((cb HB hw460_0))) (fun hHeld => ?_)
         clear hK K
         refine rN ?_
         refine one_ (i := 11) (N := some 23) #[true, true, true, true, true, true, true, true, true, true, true, true, false] rfl rfl (one_of HT_.out (by kernel_rfl)) (by decide) (fun K hK => ?_)
         refine Kd.R_append_step (Kd.int .i64) (w0 := w) w.heap.size (by rfl) (.tmp 12) (.tmp 22) 57 2 (.int .i64 0) 8 rfl Try.underlying57 info2 rfl (by decide) (by omega) u3 x3_1 t465 [.int .i64 t465] (fun k_ => some k_ ≠ (.slice Ao12 y462.length co12 : Value).ownBlock) (fun _ => False) rfl rfl ?aP (fun _ hk => hk.elim) ?aF ?aO ?aB ?aS ?aL ?_
         (case aP => exact rfl)
         (case aB => exact pB)
         (case aF => exact (fun k_ hk => Kd.fresh' (Kd.R_lt (pR HO464)) k_ hk))
         (case aO => exact (pT (Kd.R_mono HO_3.out (fun _ hk => hk.2))))
         (case aS => exact (bs_ pB))
         (case aL => have := LMc8.out; omega)
         intro v467 w14 ho hb hg hat
         rw [← Ny466.out] at ho
         have n_ := t3 (Kd.R_after (ok := (fun _ => True)) (pR HO464) hg hat) (hb) (ho)
         clear HO464 HB HO_3; obtain ⟨HO464, HB, HO468⟩ := n_; clear ho hb hg hat
         refine hK.out _ _ ((cb HB hw460_0)) (fun hHeld => ?_)
         clear hK K
         refine rN ?_
         refine rP 12 (some 3) #[true, true, true, true, true, true, true, true, true, true, true, true, true] (any_of HT_.out (by kernel_rfl)) ?_
         refine done_ (done_of HT_.out (by kernel_rfl)) ?_
         try go_wp2
         go_roundg k1
         case measure => have := HK1.out; omega
         case rel => exact ⟨(y466), (wrap64 (x4_1 + 2)), pF, H', ⟨by have := HK1.out; omega⟩, ⟨(pT (Kd.R_mono HO468.out (fun _ hk => trivial)))⟩, ⟨pB⟩⟩
       · rw [if_neg c8] at H
         exact absurd H (by simp)
     · rw [if_neg c5] at H
       exact absurd H (by simp)
   · rw [if_neg c4] at H
     have c4b0 : decide (x4_1 < (l0.length : Int)) = false := decide_eq_false c4
     clear c4
     obtain rfl := sj H
     go_wp2
     go_ret
     exact ⟨_, pE, (pR HO_3), pB⟩
end Go.Proofs.Ytjmdfghljlmfmaa.QFnExactHeaderSum
