-- written by this session's program (wip/tools/myprint.py)
import Derived.Test.YtjmdfghljlmfmaaQFnExactHeaderSumx0
-- squeezed
namespace Go.Proofs.Ytjmdfghljlmfmaa.QFnExactHeaderSum
open Go.RowKit Go.Proofs.YtjmdfghljlmfmaaW.PrintWords Go.Proofs.YtjmdfghljlmfmaaW.PrintLast Go.Proofs.YtjmdfghljlmfmaaW.PrintMore
attribute [local go_sem] max2_int min2_int max_two min_two max_three min_three max_four min_four   -- for this text's walks alone
set_option linter.unusedVariables false
set_option linter.unusedSimpArgs false
set_option maxHeartbeats 8000000
set_option maxRecDepth 100000
def spec_l6Bases_in.l0 : Nat → List (S31) → Int → Option (Bool)
 | 0, _, _ => none
 | k + 1, x0, x3 => if 0 < (x0.length : Int) then (if x3 < (((rd_T31 x0 0).f4).length : Int) then (if 0 ≤ x3 then (if (((((rd_T54 ((rd_T31 x0 0).f4) x3).f1).length : Int) == 0) != (x3 == 0)) = true then (some false) else (spec_l6Bases_in.l0 k x0 (wrap64 (x3 + 1)))) else (none)) else (some true)) else (none)
def spec_l6Bases_in.f (k : Nat) (l0 : List (S31)) : Option (Bool) := spec_l6Bases_in.l0 k l0 0
theorem spec_l6Bases_in.mono_l : ∀ k, (∀ y0 y1, LeO (spec_l6Bases_in.l0 k y0 y1) (spec_l6Bases_in.l0 (k + 1) y0 y1))
 | 0 => fun _ _ r h => by simp [spec_l6Bases_in.l0] at h
 | k + 1 => by
  have ih0 := spec_l6Bases_in.mono_l k
  · intro y0 y1
    unfold spec_l6Bases_in.l0
    repeat' with_reducible first | exact ih0 _ _ | exact LeO.refl _ | exact LeO.none _ | refine LeO.ite ?_ ?_ | refine LeO.bind ?_ (fun _ => ?_)
theorem spec_l6Bases_in.mono : ∀ a0 k, LeO (spec_l6Bases_in.f k a0) (spec_l6Bases_in.f (k + 1) a0) := by
 intro a0 k
 have ih0 := spec_l6Bases_in.mono_l k
 unfold spec_l6Bases_in.f
 repeat' with_reducible first | exact ih0 _ _ | exact LeO.refl _ | exact LeO.none _ | refine LeO.ite ?_ ?_ | refine LeO.bind ?_ (fun _ => ?_)
theorem spec_l6Bases_in.calls (k : Nat) (A0 : Option Addr) (c0 : Nat) (l0 : List (S31)) (r : Bool) (w : World) (hr0 : Kd.C k31 w A0 l0.length l0) (hc0 : l0.length ≤ c0) (h : spec_l6Bases_in.f k l0 = some r) :
 Calls Try.prog 22 #[.pointer A0] w fun e w' => e = .returned (.bool r) ∧ Below w.heap.size w w' := by
 have HR0 := am hr0; have HC0 := am hc0; clear hr0 hc0
 have HB := am (Below.refl w.heap.size w)
 have H : (spec_l6Bases_in.l0 k l0 0) = some r := h
 clear h
 have H' := am H
 clear H
 go_enter Try.func22, Try.ntmps22
 go_wp2
 go_loopg [3] k (fun kq v3 w' => ∃ (x3_1 : Int), v3 = .int .i64 x3_1 ∧ Aside0 (spec_l6Bases_in.l0 kq l0 x3_1 = some r) ∧ Aside0 (kq ≤ k) ∧ Aside0 (Below w.heap.size w w'))
 case atStart => exact ⟨(0), pF, H', ⟨Nat.le_refl _⟩, ⟨pB⟩⟩
 case round =>
  clear H'
  obtain ⟨x3_1, rfl, HA, HK1, HB⟩ := hrel
  cases gk with
  | zero => exact absurd HA.out (by simp [spec_l6Bases_in.l0])
  | succ k1 =>
   have H := HA.out
   clear HA
   simp only [spec_l6Bases_in.l0] at H
   by_cases c2 : 0 < (l0.length : Int)
   · rw [if_pos c2] at H
     have c2b0 : decide (0 < (l0.length : Int)) = true := dt c2
     have c2b1 : decide (0 < l0.length) = true := dt (by omega)
     clear c2
     by_cases c3 : x3_1 < (((rd_T31 l0 0).f4).length : Int)
     · rw [if_pos c3] at H
       have c3b0 : decide (x3_1 < (((rd_T31 l0 0).f4).length : Int)) = true := dt c3
       clear c3
       by_cases c4 : 0 ≤ x3_1
       · rw [if_pos c4] at H
         have c4b0 : decide (0 ≤ x3_1) = true := dt c4
         clear c4
         by_cases c5 : (((((rd_T54 ((rd_T31 l0 0).f4) x3_1).f1).length : Int) == 0) != (x3_1 == 0)) = true
         · rw [if_pos c5] at H
           have c5b0 : (((((rd_T54 ((rd_T31 l0 0).f4) x3_1).f1).length : Int) == 0) != (x3_1 == 0)) = true := c5
           (try (have c5b1 : decide (((((rd_T54 ((rd_T31 l0 0).f4) x3_1).f1).length : Int) == 0) = (x3_1 == 0)) = false := by simpa using c5))
           (try (have c5b2 : (((((rd_T54 ((rd_T31 l0 0).f4) x3_1).f1).length : Int) == 0) == (x3_1 == 0)) = false := by simpa using c5))
           (try (have c5b3 : ¬ (((((rd_T54 ((rd_T31 l0 0).f4) x3_1).f1).length : Int) == 0) = (x3_1 == 0)) := by simpa using c5))
           clear c5
           obtain rfl := sj H
           have p151 : 0 ≤ (0 : Int) := (by omega)
           have q151 : 0 < (l0.length : Int) := pD
           obtain ⟨ad151, A151_4, c151_4, e151, hx151_0, hx151_1, hx151_2, hx151_3, hx151_4, hl151_4, hi151_4⟩ := at_T31 HR0.out 0 p151 q151
           cases e151
           have qi151 : (0 < l0.length) = True := eq_true (by omega)
           (try rw [z0, zm, az] at hx151_0); (try rw [z0, zm, az] at hx151_1); (try rw [z0, zm, az] at hx151_2); (try rw [z0, zm, az] at hx151_3); (try rw [z0, zm, az] at hx151_4); replace hx151_0 := cb HB hx151_0; replace hx151_1 := cb HB hx151_1; replace hx151_2 := cb HB hx151_2; replace hx151_3 := cb HB hx151_3; replace hx151_4 := cb HB hx151_4; have HR151_4 := am hi151_4; have HC151_4 := am hl151_4; clear hi151_4 hl151_4; replace p151 := eq_true p151; replace q151 := eq_true q151
           have p152 : 0 ≤ (0 : Int) := (by omega)
           have q152 : 0 < (l0.length : Int) := pD
           (try clear hx151_0); (try clear hx151_1); (try clear hx151_2); (try clear hx151_3); (try clear hHeld)
           obtain ⟨ad152, A152_4, c152_4, e152, hx152_0, hx152_1, hx152_2, hx152_3, hx152_4, hl152_4, hi152_4⟩ := at_T31 HR0.out 0 p152 q152
           obtain rfl : ad151 = ad152 := (by injection e152)
           have qi152 : (0 < l0.length) = True := eq_true (by omega)
           (try rw [z0, zm, az] at hx152_0); (try rw [z0, zm, az] at hx152_1); (try rw [z0, zm, az] at hx152_2); (try rw [z0, zm, az] at hx152_3); (try rw [z0, zm, az] at hx152_4); replace hx152_0 := cb HB hx152_0; replace hx152_1 := cb HB hx152_1; replace hx152_2 := cb HB hx152_2; replace hx152_3 := cb HB hx152_3; replace hx152_4 := cb HB hx152_4; have HR152_4 := am hi152_4; have HC152_4 := am hl152_4; clear hi152_4 hl152_4; replace p152 := eq_true p152; replace q152 := eq_true q152
           have ea_ := sj (hx151_4.symm.trans hx152_4)
           injection ea_ with ea_ en_ ec_
           subst ea_; subst ec_; clear en_
           have p153 : 0 ≤ (x3_1 : Int) := pD
           have q153 : x3_1 < (((rd_T31 l0 0).f4).length : Int) := pD
           obtain ⟨ad153, A153_1, c153_1, A153_2, c153_2, e153, hx153_0, hx153_1, hx153_2, hl153_1, hi153_1, hl153_2, hi153_2⟩ := at_T54 HR152_4.out x3_1 p153 q153
           cases e153; replace hx153_0 := cb HB hx153_0; replace hx153_1 := cb HB hx153_1; replace hx153_2 := cb HB hx153_2; have HR153_1 := am hi153_1; have HC153_1 := am hl153_1; clear hi153_1 hl153_1; have HR153_2 := am hi153_2; have HC153_2 := am hl153_2; clear hi153_2 hl153_2; replace p153 := eq_true p153; replace q153 := eq_true q153
           go_wp2
           go_ret
           exact ⟨pE, pB⟩
         · rw [if_neg c5] at H
           have c5b0 : (((((rd_T54 ((rd_T31 l0 0).f4) x3_1).f1).length : Int) == 0) != (x3_1 == 0)) = false := by simpa using c5
           (try (have c5b1 : decide (((((rd_T54 ((rd_T31 l0 0).f4) x3_1).f1).length : Int) == 0) = (x3_1 == 0)) = true := by simpa using c5))
           (try (have c5b2 : (((((rd_T54 ((rd_T31 l0 0).f4) x3_1).f1).length : Int) == 0) == (x3_1 == 0)) = true := by simpa using c5))
           clear c5
           have H' := am H
           clear H
           have p151 : 0 ≤ (0 : Int) := (by omega)
           have q151 : 0 < (l0.length : Int) := pD
           obtain ⟨ad151, A151_4, c151_4, e151, hx151_0, hx151_1, hx151_2, hx151_3, hx151_4, hl151_4, hi151_4⟩ := at_T31 HR0.out 0 p151 q151
           cases e151
           have qi151 : (0 < l0.length) = True := eq_true (by omega)
           (try rw [z0, zm, az] at hx151_0); (try rw [z0, zm, az] at hx151_1); (try rw [z0, zm, az] at hx151_2); (try rw [z0, zm, az] at hx151_3); (try rw [z0, zm, az] at hx151_4); replace hx151_0 := cb HB hx151_0; replace hx151_1 := cb HB hx151_1; replace hx151_2 := cb HB hx151_2; replace hx151_3 := cb HB hx151_3; replace hx151_4 := cb HB hx151_4; have HR151_4 := am hi151_4; have HC151_4 := am hl151_4; clear hi151_4 hl151_4; replace p151 := eq_true p151; replace q151 := eq_true q151
           have p152 : 0 ≤ (0 : Int) := (by omega)
           have q152 : 0 < (l0.length : Int) := pD
           (try clear hx151_0); (try clear hx151_1); (try clear hx151_2); (try clear hx151_3); (try clear hHeld)
           obtain ⟨ad152, A152_4, c152_4, e152, hx152_0, hx152_1, hx152_2, hx152_3, hx152_4, hl152_4, hi152_4⟩ := at_T31 HR0.out 0 p152 q152
           obtain rfl : ad151 = ad152 := (by injection e152)
           have qi152 : (0 < l0.length) = True := eq_true (by omega)
           (try rw [z0, zm, az] at hx152_0); (try rw [z0, zm, az] at hx152_1); (try rw [z0, zm, az] at hx152_2); (try rw [z0, zm, az] at hx152_3); (try rw [z0, zm, az] at hx152_4); replace hx152_0 := cb HB hx152_0; replace hx152_1 := cb HB hx152_1; replace hx152_2 := cb HB hx152_2; replace hx152_3 := cb HB hx152_3; replace hx152_4 := cb HB hx152_4; have HR152_4 := am hi152_4; have HC152_4 := am hl152_4; clear hi152_4 hl152_4; replace p152 := eq_true p152; replace q152 := eq_true q152
           have ea_ := sj (hx151_4.symm.trans hx152_4)
           injection ea_ with ea_ en_ ec_
           subst ea_; subst ec_; clear en_
           have p153 : 0 ≤ (x3_1 : Int) := pD
           have q153 : x3_1 < (((rd_T31 l0 0).f4).length : Int) := pD
           obtain ⟨ad153, A153_1, c153_1, A153_2, c153_2, e153, hx153_0, hx153_1, hx153_2, hl153_1, hi153_1, hl153_2, hi153_2⟩ := at_T54 HR152_4.out x3_1 p153 q153
           cases e153; replace hx153_0 := cb HB hx153_0; replace hx153_1 := cb HB hx153_1; replace hx153_2 := cb HB hx153_2; have HR153_1 := am hi153_1; have HC153_1 := am hl153_1; clear hi153_1 hl153_1; have HR153_2 := am hi153_2; have HC153_2 := am hl153_2; clear hi153_2 hl153_2; replace p153 := eq_true p153; replace q153 := eq_true q153
           go_wp2
           go_roundg k1
           case measure => have := HK1.out; omega
           case rel => exact ⟨(wrap64 (x3_1 + 1)), pF, H', ⟨by have := HK1.out; omega⟩, ⟨pB⟩⟩
       · rw [if_neg c4] at H
         exact absurd H (by simp)
     · rw [if_neg c3] at H
       have c3b0 : decide (x3_1 < (((rd_T31 l0 0).f4).length : Int)) = false := decide_eq_false c3
       clear c3
       obtain rfl := sj H
       have p151 : 0 ≤ (0 : Int) := (by omega)
       have q151 : 0 < (l0.length : Int) := pD
       obtain ⟨ad151, A151_4, c151_4, e151, hx151_0, hx151_1, hx151_2, hx151_3, hx151_4, hl151_4, hi151_4⟩ := at_T31 HR0.out 0 p151 q151
       cases e151
       have qi151 : (0 < l0.length) = True := eq_true (by omega)
       (try rw [z0, zm, az] at hx151_0); (try rw [z0, zm, az] at hx151_1); (try rw [z0, zm, az] at hx151_2); (try rw [z0, zm, az] at hx151_3); (try rw [z0, zm, az] at hx151_4); replace hx151_0 := cb HB hx151_0; replace hx151_1 := cb HB hx151_1; replace hx151_2 := cb HB hx151_2; replace hx151_3 := cb HB hx151_3; replace hx151_4 := cb HB hx151_4; have HR151_4 := am hi151_4; have HC151_4 := am hl151_4; clear hi151_4 hl151_4; replace p151 := eq_true p151; replace q151 := eq_true q151
       go_wp2
       go_ret
       exact ⟨pE, pB⟩
   · rw [if_neg c2] at H
     exact absurd H (by simp)
def spec_l6Bases.f (k : Nat) (a0_0 : Int) (a0_1 : Int) (a0_2 : Int) (a0_3 : Int) (l0_4 : List (S54)) : Option (Bool) := spec_l6Bases_in.f k [(⟨a0_0, a0_1, a0_2, a0_3, l0_4⟩ : S31)]
theorem spec_l6Bases.mono : ∀ (a0_0 : Int) (a0_1 : Int) (a0_2 : Int) (a0_3 : Int) (l0_4 : List (S54)) (k : Nat), LeO (spec_l6Bases.f k a0_0 a0_1 a0_2 a0_3 l0_4) (spec_l6Bases.f (k + 1) a0_0 a0_1 a0_2 a0_3 l0_4) := fun a0_0 a0_1 a0_2 a0_3 l0_4 k => spec_l6Bases_in.mono [(⟨a0_0, a0_1, a0_2, a0_3, l0_4⟩ : S31)] k
set_option maxHeartbeats 8000000 in
theorem spec_l6Bases.calls (k : Nat) (a0_0 : Int) (a0_1 : Int) (a0_2 : Int) (a0_3 : Int) (A0_4 : Option Addr) (c0_4 : Nat) (l0_4 : List (S54)) (r : Bool) (w : World) (hr0_4 : Kd.C k54 w A0_4 l0_4.length l0_4) (hc0_4 : l0_4.length ≤ c0_4) (h : spec_l6Bases.f k a0_0 a0_1 a0_2 a0_3 l0_4 = some r) {pp0 : Addr} (hpp0_0 : w.cell? pp0 = some (.int .i64 a0_0)) (hpp0_1 : w.cell? ⟨pp0.block, pp0.off + 1, none⟩ = some (.int .i64 a0_1)) (hpp0_2 : w.cell? ⟨pp0.block, pp0.off + 2, none⟩ = some (.int .i64 a0_2)) (hpp0_3 : w.cell? ⟨pp0.block, pp0.off + 3, none⟩ = some (.int .i64 a0_3)) (hpp0_4 : w.cell? ⟨pp0.block, pp0.off + 4, none⟩ = some (.slice A0_4 l0_4.length c0_4)) :
 Calls Try.prog 22 #[.pointer (some pp0)] w fun e w' => e = .returned (.bool r) ∧ Below w.heap.size w w' := by
 have o0 : Kd.C k31 w (some pp0) 1 [(⟨a0_0, a0_1, a0_2, a0_3, l0_4⟩ : S31)] := by
  refine ⟨rfl, by decide, fun _ => ⟨pp0, rfl, fun j p hj => ?_⟩⟩
  cases j with
  | succ j => simp at hj
  | zero =>
   obtain rfl : (⟨a0_0, a0_1, a0_2, a0_3, l0_4⟩ : S31) = p := by simpa using hj
   refine ⟨_, rfl, k31_mk w _ hc0_4 hr0_4, fun i u hu => ?_⟩
   match i, hu with
   | 0, hu => obtain rfl := sj hu; exact hpp0_0
   | 1, hu => obtain rfl := sj hu; exact hpp0_1
   | 2, hu => obtain rfl := sj hu; exact hpp0_2
   | 3, hu => obtain rfl := sj hu; exact hpp0_3
   | 4, hu => obtain rfl := sj hu; exact hpp0_4
 exact spec_l6Bases_in.calls k (some pp0) 1 [(⟨a0_0, a0_1, a0_2, a0_3, l0_4⟩ : S31)] r w o0 (Nat.le_refl 1) h
def spec_l1Four.f (a0 : Int) : Option (List Int) := some (([(a0 / 16777216) % 256, (a0 / 65536) % 256, (a0 / 256) % 256, (a0) % 256] : List Int))
theorem spec_l1Four.calls (a0 : Int) (r : List Int) (w : World) (h : spec_l1Four.f a0 = some r) :
 Calls Try.prog 44 #[.int .i64 a0] w fun e w' => ∃ v0_ : Value, e = .returned (v0_) ∧ Kd.R (Kd.int .u8) 5 w' w.heap.size (fun _ => True) v0_ r ∧ Below w.heap.size w w' := by
 have HB := am (Below.refl w.heap.size w)
 have H : (some (([(a0 / 16777216) % 256, (a0 / 65536) % 256, (a0 / 256) % 256, (a0) % 256] : List Int))) = some r := h
 clear h
 obtain ⟨y154, hy154⟩ : ∃ y_ : List Int, y_ = (([(a0 / 16777216) % 256, (a0 / 65536) % 256, (a0 / 256) % 256, (a0) % 256] : List Int)) := ⟨_, rfl⟩
 replace H : (some y154) = some r := by first | (rw [hy154]; with_reducible exact H) | (have H2_ := (Option.bind_some _ _).symm.trans H; rw [hy154]; with_reducible exact H2_) | (have H2_ := (Option.bind_some _ _).symm.trans H; with_reducible exact H2_) | with_reducible exact H | (rw [hy154]; exact H) | exact H
 have Ny154 := am hy154; clear hy154
 obtain rfl := sj H
 go_enter Try.func44, Try.ntmps44
 go_wp2_with (first | ((with_reducible refine gate_dst (N := 14) rfl ?_); refine Kd.R_lit (Kd.int .u8) _ 5 ?hg (N := 14) ?hd (xs := ([(a0 / 16777216) % 256, (a0 / 65536) % 256, (a0 / 256) % 256, (a0) % 256] : List Int)) (inner := [.int .u8 ((a0 / 16777216) % 256), .int .u8 ((a0 / 65536) % 256), .int .u8 ((a0 / 256) % 256), .int .u8 ((a0) % 256)]) (ok := fun _ => True) (okp := fun _ => True) ?hr ?hp (fun _ hk => hk) trivial (Below.refl _ _) (Nat.le_refl _) (by simp) ?_; (case hd => rfl); (case hg => rfl); (case hr => first | (go_simp; done) | (go_simp; rfl)); (case hp => exact (Reps.one (show Kd.M (Kd.int .u8) _ _ _ ((a0 / 16777216) % 256) [.int .u8 ((a0 / 16777216) % 256)] from rfl) (Reps.one (show Kd.M (Kd.int .u8) _ _ _ ((a0 / 65536) % 256) [.int .u8 ((a0 / 65536) % 256)] from rfl) (Reps.one (show Kd.M (Kd.int .u8) _ _ _ ((a0 / 256) % 256) [.int .u8 ((a0 / 256) % 256)] from rfl) (Reps.one (show Kd.M (Kd.int .u8) _ _ _ ((a0) % 256) [.int .u8 ((a0) % 256)] from rfl) (Reps.none _ _)))))); intro v155 w2 ho3 hb hg_ hnew_; clear hg_ hnew_; (first | rw [← Ny154.out] at ho3 | (simp only [Int.reduceToNat] at ho3; rw [← Ny154.out] at ho3)); have n_ := t2 (rL ho3 (bs_ pB)) (bz_ pB hb); clear HB; obtain ⟨HO156, HB⟩ := n_; clear hb ho3))
 go_ret
 exact ⟨_, pE, (pR HO156), pB⟩
def spec_l1Sum.l0 : Nat → List Int → Int → Int → Option (Int)
 | 0, _, _, _ => none
 | k + 1, x0, x3, x4 => if x4 < (x0.length : Int) then (if 0 ≤ x4 then (spec_l1Sum.l0 k x0 (Int.tmod (wrap64 ((wrap64 ((wrap64 (x3 * 33)) + (wrap64 (rd x0 x4)))) + 1)) 2147483647) (wrap64 (x4 + 1))) else (none)) else (some x3)
def spec_l1Sum.f (k : Nat) (l0 : List Int) : Option (Int) := spec_l1Sum.l0 k l0 5381 0
theorem spec_l1Sum.mono_l : ∀ k, (∀ y0 y1 y2, LeO (spec_l1Sum.l0 k y0 y1 y2) (spec_l1Sum.l0 (k + 1) y0 y1 y2))
 | 0 => fun _ _ _ r h => by simp [spec_l1Sum.l0] at h
 | k + 1 => by
  have ih0 := spec_l1Sum.mono_l k
  · intro y0 y1 y2
    unfold spec_l1Sum.l0
    repeat' with_reducible first | exact ih0 _ _ _ | exact LeO.refl _ | exact LeO.none _ | refine LeO.ite ?_ ?_ | refine LeO.bind ?_ (fun _ => ?_)
theorem spec_l1Sum.mono : ∀ a0 k, LeO (spec_l1Sum.f k a0) (spec_l1Sum.f (k + 1) a0) := by
 intro a0 k
 have ih0 := spec_l1Sum.mono_l k
 unfold spec_l1Sum.f
 repeat' with_reducible first | exact ih0 _ _ _ | exact LeO.refl _ | exact LeO.none _ | refine LeO.ite ?_ ?_ | refine LeO.bind ?_ (fun _ => ?_)
theorem spec_l1Sum.calls (k : Nat) (A0 : Option Addr) (c0 : Nat) (l0 : List Int) (r : Int) (w : World) (hr0 : Kd.C (Kd.int .u8) w A0 l0.length l0) (hc0 : l0.length ≤ c0) (h : spec_l1Sum.f k l0 = some r) :
 Calls Try.prog 45 #[.slice A0 l0.length c0] w fun e w' => e = .returned (.int .i64 r) ∧ Drawn0 w w' := by
 have HR0 := am hr0; have HC0 := am hc0; clear hr0 hc0
 have H : (spec_l1Sum.l0 k l0 5381 0) = some r := h
 clear h
 have H' := am H
 clear H
 go_enter Try.func45, Try.ntmps45
 go_wp2
 go_loopg [3, 4] k (fun kq v3 v4 w' => ∃ (x3_1 : Int) (x4_1 : Int), v3 = .int .i64 x3_1 ∧ v4 = .int .i64 x4_1 ∧ Aside0 (spec_l1Sum.l0 kq l0 x3_1 x4_1 = some r) ∧ Aside0 (kq ≤ k) ∧ Drawn0 w w')
 case atStart => exact ⟨(5381), (0), pF, pF, H', ⟨Nat.le_refl _⟩, pW⟩
 case round =>
  clear H'
  obtain ⟨x3_1, x4_1, rfl, rfl, HA, HK1, ⟨m1, rfl⟩⟩ := hrel
  cases gk with
  | zero => exact absurd HA.out (by simp [spec_l1Sum.l0])
  | succ k1 =>
   have H := HA.out
   clear HA
   simp only [spec_l1Sum.l0] at H
   by_cases c2 : x4_1 < (l0.length : Int)
   · rw [if_pos c2] at H
     have c2b0 : decide (x4_1 < (l0.length : Int)) = true := dt c2
     clear c2
     by_cases c3 : 0 ≤ x4_1
     · rw [if_pos c3] at H
       have c3b0 : decide (0 ≤ x4_1) = true := dt c3
       clear c3
       have H' := am H
       clear H
       have p157 : 0 ≤ (x4_1 : Int) := pD
       have q157 : x4_1 < (l0.length : Int) := pD
       obtain ⟨ad157, e157, hx157_0⟩ := Kd.at_int HR0.out x4_1 p157 q157
       cases e157; replace p157 := eq_true p157; replace q157 := eq_true q157
       go_wp2
       go_roundg k1
       case measure => have := HK1.out; omega
       case rel => exact ⟨(Int.tmod (wrap64 ((wrap64 ((wrap64 (x3_1 * 33)) + (wrap64 (rd l0 x4_1)))) + 1)) 2147483647), (wrap64 (x4_1 + 1)), pF, pF, H', ⟨by have := HK1.out; omega⟩, pW⟩
     · rw [if_neg c3] at H
       exact absurd H (by simp)
   · rw [if_neg c2] at H
     have c2b0 : decide (x4_1 < (l0.length : Int)) = false := decide_eq_false c2
     clear c2
     obtain rfl := sj H
     go_wp2
     go_ret
     exact ⟨by first | rfl | (simp; done) | (simp [*]; done), pW⟩
def spec_l1SumInts.l0 : Nat → List Int → List Int → Int → Option (Int)
 | 0, _, _, _ => none
 | k + 1, x0, x3, x4 => if x4 < (x0.length : Int) then (if 0 ≤ x4 then ((spec_l1Four.f (rd x0 x4)).bind fun t162 => (if x3.length + t162.length < 140737488355328 then (spec_l1SumInts.l0 k x0 (x3 ++ t162) (wrap64 (x4 + 1))) else (none))) else (none)) else ((spec_l1Sum.f k x3).bind fun t168 => (some t168))
def spec_l1SumInts.f (k : Nat) (l0 : List Int) : Option (Int) := spec_l1SumInts.l0 k l0 (([] : List Int)) 0
theorem spec_l1SumInts.mono_l : ∀ k, (∀ y0 y1 y2, LeO (spec_l1SumInts.l0 k y0 y1 y2) (spec_l1SumInts.l0 (k + 1) y0 y1 y2))
 | 0 => fun _ _ _ r h => by simp [spec_l1SumInts.l0] at h
 | k + 1 => by
  have ih0 := spec_l1SumInts.mono_l k
  · intro y0 y1 y2
    unfold spec_l1SumInts.l0
    repeat' with_reducible first | exact ih0 _ _ _ | exact spec_l1Sum.mono _ _ | exact LeO.refl _ | exact LeO.none _ | refine LeO.ite ?_ ?_ | refine LeO.bind ?_ (fun _ => ?_)
theorem spec_l1SumInts.mono : ∀ a0 k, LeO (spec_l1SumInts.f k a0) (spec_l1SumInts.f (k + 1) a0) := by
 intro a0 k
 have ih0 := spec_l1SumInts.mono_l k
 unfold spec_l1SumInts.f
 repeat' with_reducible first | exact ih0 _ _ _ | exact spec_l1Sum.mono _ _ | exact LeO.refl _ | exact LeO.none _ | refine LeO.ite ?_ ?_ | refine LeO.bind ?_ (fun _ => ?_)
theorem spec_l1SumInts.calls (k : Nat) (A0 : Option Addr) (c0 : Nat) (l0 : List Int) (r : Int) (w : World) (hr0 : Kd.C (Kd.int .i64) w A0 l0.length l0) (hc0 : l0.length ≤ c0) (h : spec_l1SumInts.f k l0 = some r) :
 Calls Try.prog 25 #[.slice A0 l0.length c0] w fun e w' => e = .returned (.int .i64 r) ∧ Below w.heap.size w w' := by
 have HR0 := am hr0; have HC0 := am hc0; clear hr0 hc0
 have HB := am (Below.refl w.heap.size w)
 have H : (spec_l1SumInts.l0 k l0 (([] : List Int)) 0) = some r := h
 clear h
 obtain ⟨y158, hy158⟩ : ∃ y_ : List Int, y_ = (([] : List Int)) := ⟨_, rfl⟩
 replace H : (spec_l1SumInts.l0 k l0 y158 0) = some r := by first | (rw [hy158]; with_reducible exact H) | (have H2_ := (Option.bind_some _ _).symm.trans H; rw [hy158]; with_reducible exact H2_) | (have H2_ := (Option.bind_some _ _).symm.trans H; with_reducible exact H2_) | with_reducible exact H | (rw [hy158]; exact H) | exact H
 have Ny158 := am hy158; clear hy158
 have H' := am H
 clear H
 go_enter Try.func25, Try.ntmps25
 go_wp2_with (first | ((with_reducible refine gate_dst (N := 5) rfl ?_); refine Kd.R_lit (Kd.int .u8) _ 5 ?hg (N := 5) ?hd (xs := ([] : List Int)) (inner := []) (ok := fun _ => True) (okp := fun _ => True) ?hr ?hp (fun _ hk => hk) trivial (Below.refl _ _) (Nat.le_refl _) (by simp) ?_; (case hd => rfl); (case hg => rfl); (case hr => first | (go_simp; done) | (go_simp; rfl)); (case hp => exact (Reps.none _ _)); intro v159 w2 ho3 hb hg_ hnew_; clear hg_ hnew_; (first | rw [← Ny158.out] at ho3 | (simp only [Int.reduceToNat] at ho3; rw [← Ny158.out] at ho3)); have n_ := t2 (rL ho3 (bs_ pB)) (bz_ pB hb); clear HB; obtain ⟨HO160, HB⟩ := n_; clear hb ho3))
 go_loopg [3, 4] k (fun kq v3 v4 w' => ∃ (x3_1 : List Int) (x4_1 : Int), v4 = .int .i64 x4_1 ∧ Aside0 (spec_l1SumInts.l0 kq l0 x3_1 x4_1 = some r) ∧ Aside0 (kq ≤ k) ∧ Aside0 (Kd.R (Kd.int .u8) 5 w' w.heap.size (fun _ => True) v3 x3_1) ∧ Aside0 (Below w.heap.size w w'))
 case atStart => exact ⟨(y158), (0), pF, H', ⟨Nat.le_refl _⟩, ⟨(pR HO160)⟩, ⟨pB⟩⟩
 case round =>
  clear H'
  obtain ⟨x3_1, x4_1, rfl, HA, HK1, HO_3, HB⟩ := hrel
  cases gk with
  | zero => exact absurd HA.out (by simp [spec_l1SumInts.l0])
  | succ k1 =>
   have H := HA.out
   clear HA
   simp only [spec_l1SumInts.l0] at H
   by_cases c4 : x4_1 < (l0.length : Int)
   · rw [if_pos c4] at H
     have c4b0 : decide (x4_1 < (l0.length : Int)) = true := dt c4
     clear c4
     by_cases c5 : 0 ≤ x4_1
     · rw [if_pos c5] at H
       have c5b0 : decide (0 ≤ x4_1) = true := dt c5
       clear c5
       obtain ⟨t162, A60, H⟩ := bO H
       replace H : (if x3_1.length + t162.length < 140737488355328 then (spec_l1SumInts.l0 k1 l0 (x3_1 ++ t162) (wrap64 (x4_1 + 1))) else (none)) = some r := H
       have A6 := am A60; clear A60
       by_cases c7 : x3_1.length + t162.length < 140737488355328
       · rw [if_pos c7] at H
         have LMc7 := am c7; clear c7
         obtain ⟨y165, hy165⟩ : ∃ y_ : List Int, y_ = (x3_1 ++ t162) := ⟨_, rfl⟩
         replace H : (spec_l1SumInts.l0 k1 l0 y165 (wrap64 (x4_1 + 1))) = some r := by first | (rw [hy165]; with_reducible exact H) | (have H2_ := (Option.bind_some _ _).symm.trans H; rw [hy165]; with_reducible exact H2_) | (have H2_ := (Option.bind_some _ _).symm.trans H; with_reducible exact H2_) | with_reducible exact H | (rw [hy165]; exact H) | exact H
         have Ny165 := am hy165; clear hy165
         have H' := am H
         clear H
         have p161 : 0 ≤ (x4_1 : Int) := pD
         have q161 : x4_1 < (l0.length : Int) := pD
         obtain ⟨ad161, e161, hx161_0⟩ := Kd.at_int HR0.out x4_1 p161 q161
         cases e161; replace hx161_0 := cb HB hx161_0; replace p161 := eq_true p161; replace q161 := eq_true q161
         go_wp2_with (first | ((with_reducible refine gC (f := 44) rfl ?_); refine goesL_ (some 17) rfl rfl Try.func44 (by kernel_rfl) rfl #[.int .i64 (rd l0 x4_1)] rfl pA ?_; (with_reducible refine (spec_l1Four.calls (rd l0 x4_1) t162 _ A6.out).mono ?_); rintro e w8 ⟨v163, rfl, ho0, hb⟩; refine ⟨_, rfl, ?_⟩; have n_ := t3 (rE (pR HO_3) (rB ho0) hb) (rL (rW ho0 (Kd.R_lt (pR HO_3))) (bs_ pB)) (bz_ pB hb); clear HO_3 HB; obtain ⟨HO_3, HO164, HB⟩ := n_; (try clear hb); (try clear ho0); obtain ⟨Ao10, co10, eo10⟩ := rS HO164.out; subst eo10) | ((with_reducible refine gB (b := .append) (xs := #[.tmp 12, .tmp 17]) rfl ?_); at_builtin; refine Kd.R_append_rows (Kd.int .u8) (w0 := w) w.heap.size rfl (.tmp 12) (.tmp 17) 71 5 (.int .u8 0) 1 rfl Try.underlying71 info5 rfl (by decide) (by omega) u3 x3_1 t162 _ _ _ (fun k_ => some k_ ≠ (.slice Ao10 t162.length co10 : Value).ownBlock) (fun _ => False) rfl rfl ?aO ?aR (fun _ _ h => h) (fun _ h => h.elim) ?aF ?aB ?aS ?aL ?_; (case aR => exact pC (rr HO164.out).2.2); (case aB => exact pB); (case aF => exact (fun k_ hk => Kd.fresh' (Kd.R_lt (pR HO164)) k_ hk)); (case aO => exact (pT (Kd.R_mono HO_3.out (fun _ hk => hk.2)))); (case aS => exact (bs_ pB)); (case aL => have := LMc7.out; omega); intro v166 w9 ho hb hg hat; rw [← Ny165.out] at ho; have n_ := t3 (Kd.R_after (ok := (fun _ => True)) (pR HO164) hg hat) (hb) (ho); clear HO164 HB HO_3; obtain ⟨HO164, HB, HO167⟩ := n_; clear ho hb hg hat))
         go_roundg k1
         case measure => have := HK1.out; omega
         case rel => exact ⟨(y165), (wrap64 (x4_1 + 1)), pF, H', ⟨by have := HK1.out; omega⟩, ⟨(pT (Kd.R_mono HO167.out (fun _ hk => trivial)))⟩, ⟨pB⟩⟩
       · rw [if_neg c7] at H
         exact absurd H (by simp)
     · rw [if_neg c5] at H
       exact absurd H (by simp)
   · rw [if_neg c4] at H
     have c4b0 : decide (x4_1 < (l0.length : Int)) = false := decide_eq_false c4
     clear c4
     obtain ⟨t168, A110, H⟩ := bO H
     replace H : (some t168) = some r := H
     have A11 := am A110; clear A110
     obtain rfl := sj H
     obtain ⟨Ao12, co12, eo12⟩ := rS HO_3.out
     subst eo12
     go_wp2_with (first | ((with_reducible refine gC (f := 45) rfl ?_); refine goesL_ (some 20) rfl rfl Try.func45 (by kernel_rfl) rfl #[.slice Ao12 x3_1.length co12] rfl pA ?_; (with_reducible refine (spec_l1Sum.calls k1 _ _ x3_1 t168 _ ?side1 ?side2 A11.out).mono ?_); (case side1 => exact pC (rr HO_3.out).2.2); (case side2 => exact (rr HO_3.out).2.1); rintro e w' ⟨rfl, ⟨nd, rfl⟩⟩; refine ⟨_, rfl, ?_⟩))
     go_ret
     exact ⟨pE, pB⟩
def spec_l4Join.f (k : Nat) (a0 : Int) (a1 : Int) : Option (Int) := (spec_l1SumInts.f k (([a0, a1] : List Int))).bind fun t172 => (some t172)
theorem spec_l4Join.mono : ∀ a0 a1 k, LeO (spec_l4Join.f k a0 a1) (spec_l4Join.f (k + 1) a0 a1) := by
 intro a0 a1 k
 unfold spec_l4Join.f
 repeat' with_reducible first | exact spec_l1SumInts.mono _ _ | exact LeO.refl _ | exact LeO.none _ | refine LeO.ite ?_ ?_ | refine LeO.bind ?_ (fun _ => ?_)
theorem spec_l4Join.calls (k : Nat) (a0 : Int) (a1 : Int) (r : Int) (w : World) (h : spec_l4Join.f k a0 a1 = some r) :
 Calls Try.prog 64 #[.int .i64 a0, .int .i64 a1] w fun e w' => e = .returned (.int .i64 r) ∧ Below w.heap.size w w' := by
 have HB := am (Below.refl w.heap.size w)
 have H : ((spec_l1SumInts.f k (([a0, a1] : List Int))).bind fun t172 => (some t172)) = some r := h
 clear h
 obtain ⟨y169, hy169⟩ : ∃ y_ : List Int, y_ = (([a0, a1] : List Int)) := ⟨_, rfl⟩
 replace H : ((spec_l1SumInts.f k y169).bind fun t172 => (some t172)) = some r := by first | (rw [hy169]; with_reducible exact H) | (have H2_ := (Option.bind_some _ _).symm.trans H; rw [hy169]; with_reducible exact H2_) | (have H2_ := (Option.bind_some _ _).symm.trans H; with_reducible exact H2_) | with_reducible exact H | (rw [hy169]; exact H) | exact H
 have Ny169 := am hy169; clear hy169
 obtain ⟨t172, A30, H⟩ := bO H
 replace H : (some t172) = some r := H
 have A3 := am A30; clear A30
 obtain rfl := sj H
 go_enter Try.func64, Try.ntmps64
 go_wp2_with (first | ((with_reducible refine gate_dst (N := 7) rfl ?_); refine Kd.R_lit (Kd.int .i64) _ 2 ?hg (N := 7) ?hd (xs := ([a0, a1] : List Int)) (inner := [.int .i64 a0, .int .i64 a1]) (ok := fun _ => True) (okp := fun _ => True) ?hr ?hp (fun _ hk => hk) trivial (Below.refl _ _) (Nat.le_refl _) (by simp) ?_; (case hd => rfl); (case hg => rfl); (case hr => first | (go_simp; done) | (go_simp; rfl)); (case hp => exact (Reps.one (show Kd.M (Kd.int .i64) _ _ _ a0 [.int .i64 a0] from rfl) (Reps.one (show Kd.M (Kd.int .i64) _ _ _ a1 [.int .i64 a1] from rfl) (Reps.none _ _)))); intro v170 w4 ho5 hb hg_ hnew_; clear hg_ hnew_; (first | rw [← Ny169.out] at ho5 | (simp only [Int.reduceToNat] at ho5; rw [← Ny169.out] at ho5)); have n_ := t2 (rL ho5 (bs_ pB)) (bz_ pB hb); clear HB; obtain ⟨HO171, HB⟩ := n_; clear hb ho5; obtain ⟨Ao6, co6, eo6⟩ := rS HO171.out; subst eo6) | ((with_reducible refine gC (f := 25) rfl ?_); refine goesL_ (some 8) rfl rfl Try.func25 (by kernel_rfl) rfl #[.slice Ao6 y169.length co6] rfl pA ?_; (with_reducible refine (spec_l1SumInts.calls k _ _ y169 t172 _ ?side1 ?side2 A3.out).mono ?_); (case side1 => exact pC (rr HO171.out).2.2); (case side2 => exact (rr HO171.out).2.1); rintro e w7 ⟨rfl, hb⟩; refine ⟨_, rfl, ?_⟩; have n_ := t2 (Kd.R_below (pR HO171) hb) (bz_ pB hb); clear HO171 HB; obtain ⟨HO171, HB⟩ := n_; (try clear hb)))
 go_ret
 exact ⟨pE, pB⟩
def spec_l4Mate.f (l0 : List Int) (a1 : Int) : Option (Int) := if (Int.tmod a1 2) = 1 then (if (wrap64 (a1 - 1)) ≥ (l0.length : Int) then (if 0 ≤ a1 then (if a1 < (l0.length : Int) then (some (rd l0 a1)) else (none)) else (none)) else (if 0 ≤ (wrap64 (a1 - 1)) then (if (wrap64 (a1 - 1)) < (l0.length : Int) then (some (rd l0 (wrap64 (a1 - 1)))) else (none)) else (none))) else (if (wrap64 (a1 + 1)) ≥ (l0.length : Int) then (if 0 ≤ a1 then (if a1 < (l0.length : Int) then (some (rd l0 a1)) else (none)) else (none)) else (if 0 ≤ (wrap64 (a1 + 1)) then (if (wrap64 (a1 + 1)) < (l0.length : Int) then (some (rd l0 (wrap64 (a1 + 1)))) else (none)) else (none)))
theorem spec_l4Mate.calls (A0 : Option Addr) (c0 : Nat) (l0 : List Int) (a1 : Int) (r : Int) (w : World) (hr0 : Kd.C (Kd.int .i64) w A0 l0.length l0) (hc0 : l0.length ≤ c0) (h : spec_l4Mate.f l0 a1 = some r) :
 Calls Try.prog 65 #[.slice A0 l0.length c0, .int .i64 a1] w fun e w' => e = .returned (.int .i64 r) ∧ Drawn0 w w' := by
 have HR0 := am hr0; have HC0 := am hc0; clear hr0 hc0
 have H : (if (Int.tmod a1 2) = 1 then (if (wrap64 (a1 - 1)) ≥ (l0.length : Int) then (if 0 ≤ a1 then (if a1 < (l0.length : Int) then (some (rd l0 a1)) else (none)) else (none)) else (if 0 ≤ (wrap64 (a1 - 1)) then (if (wrap64 (a1 - 1)) < (l0.length : Int) then (some (rd l0 (wrap64 (a1 - 1)))) else (none)) else (none))) else (if (wrap64 (a1 + 1)) ≥ (l0.length : Int) then (if 0 ≤ a1 then (if a1 < (l0.length : Int) then (some (rd l0 a1)) else (none)) else (none)) else (if 0 ≤ (wrap64 (a1 + 1)) then (if (wrap64 (a1 + 1)) < (l0.length : Int) then (some (rd l0 (wrap64 (a1 + 1)))) else (none)) else (none)))) = some r := h
 clear h
 by_cases c3 : (Int.tmod a1 2) = 1
 · rw [if_pos c3] at H
   have c3b0 : ((Int.tmod a1 2) == 1) = true := beq_iff_eq.mpr c3
   have c3b1 : ((Int.tmod a1 2) != 1) = false := bne_eq_false_iff_eq.mpr c3
   clear c3
   by_cases c4 : (wrap64 (a1 - 1)) ≥ (l0.length : Int)
   · rw [if_pos c4] at H
     have c4b0 : decide ((l0.length : Int) ≤ (wrap64 (a1 - 1))) = true := dt c4
     clear c4
     by_cases c5 : 0 ≤ a1
     · rw [if_pos c5] at H
       have c5b0 : decide (0 ≤ a1) = true := dt c5
       clear c5
       by_cases c6 : a1 < (l0.length : Int)
       · rw [if_pos c6] at H
         have c6b0 : decide (a1 < (l0.length : Int)) = true := dt c6
         clear c6
         obtain rfl := sj H
         have p173 : 0 ≤ (a1 : Int) := pD
         have q173 : a1 < (l0.length : Int) := pD
         obtain ⟨ad173, e173, hx173_0⟩ := Kd.at_int HR0.out a1 p173 q173
         cases e173; replace p173 := eq_true p173; replace q173 := eq_true q173
         go_enter Try.func65, Try.ntmps65
         go_wp2
         go_ret
         exact ⟨by first | rfl | (simp; done) | (simp [*]; done), pW⟩
       · rw [if_neg c6] at H
         exact absurd H (by simp)
     · rw [if_neg c5] at H
       exact absurd H (by simp)
   · rw [if_neg c4] at H
     have c4b0 : decide ((l0.length : Int) ≤ (wrap64 (a1 - 1))) = false := decide_eq_false c4
     clear c4
     obtain ⟨ji7, hji7⟩ : ∃ j_ : Int, (wrap64 (a1 - 1)) = j_ := ⟨_, rfl⟩
     replace H : (if 0 ≤ (ji7) then (if (ji7) < (l0.length : Int) then (some (rd l0 (ji7))) else (none)) else (none)) = some r := by first | (rw [hji7] at H; exact H) | (simp only [hji7] at H ⊢; exact H)
     (try rw [hji7] at c4b0)
     have hji7w : (IntKind.i64.wrap (a1 - 1)) = ji7 := (i64_w _).trans hji7
     by_cases c8 : 0 ≤ (ji7)
     · rw [if_pos c8] at H
       have c8b0 : decide (0 ≤ (ji7)) = true := dt c8
       clear c8
       by_cases c9 : (ji7) < (l0.length : Int)
       · rw [if_pos c9] at H
         have c9b0 : decide ((ji7) < (l0.length : Int)) = true := dt c9
         clear c9
         obtain rfl := sj H
         have p174 : 0 ≤ ((ji7) : Int) := pD
         have q174 : (ji7) < (l0.length : Int) := pD
         obtain ⟨ad174, e174, hx174_0⟩ := Kd.at_int HR0.out (ji7) p174 q174
         cases e174; replace p174 := eq_true p174; replace q174 := eq_true q174
         go_enter Try.func65, Try.ntmps65
         go_wp2
         go_ret
         exact ⟨by first | rfl | (simp; done) | (simp only [← hji7] <;> (first | rfl | simp)) | (simp [*]; done), pW⟩
       · rw [if_neg c9] at H
         exact absurd H (by simp)
     · rw [if_neg c8] at H
       exact absurd H (by simp)
 · rw [if_neg c3] at H
   have c3b0 : ((Int.tmod a1 2) == 1) = false := beq_eq_false_iff_ne.mpr c3
   have c3b1 : ((Int.tmod a1 2) != 1) = true := bne_iff_ne.mpr c3
   by_cases c10 : (wrap64 (a1 + 1)) ≥ (l0.length : Int)
   · rw [if_pos c10] at H
     have c10b0 : decide ((l0.length : Int) ≤ (wrap64 (a1 + 1))) = true := dt c10
     clear c10
     by_cases c11 : 0 ≤ a1
     · rw [if_pos c11] at H
       have c11b0 : decide (0 ≤ a1) = true := dt c11
       clear c11
       by_cases c12 : a1 < (l0.length : Int)
       · rw [if_pos c12] at H
         have c12b0 : decide (a1 < (l0.length : Int)) = true := dt c12
         clear c12
         obtain rfl := sj H
         have p175 : 0 ≤ (a1 : Int) := pD
         have q175 : a1 < (l0.length : Int) := pD
         obtain ⟨ad175, e175, hx175_0⟩ := Kd.at_int HR0.out a1 p175 q175
         cases e175; replace p175 := eq_true p175; replace q175 := eq_true q175
         go_enter Try.func65, Try.ntmps65
         go_wp2
         go_ret
         exact ⟨by first | rfl | (simp; done) | (simp [*]; done), pW⟩
       · rw [if_neg c12] at H
         exact absurd H (by simp)
     · rw [if_neg c11] at H
       exact absurd H (by simp)
   · rw [if_neg c10] at H
     have c10b0 : decide ((l0.length : Int) ≤ (wrap64 (a1 + 1))) = false := decide_eq_false c10
     clear c10
     obtain ⟨ji13, hji13⟩ : ∃ j_ : Int, (wrap64 (a1 + 1)) = j_ := ⟨_, rfl⟩
     replace H : (if 0 ≤ (ji13) then (if (ji13) < (l0.length : Int) then (some (rd l0 (ji13))) else (none)) else (none)) = some r := by first | (rw [hji13] at H; exact H) | (simp only [hji13] at H ⊢; exact H)
     (try rw [hji13] at c10b0)
     have hji13w : (IntKind.i64.wrap (a1 + 1)) = ji13 := (i64_w _).trans hji13
     by_cases c14 : 0 ≤ (ji13)
     · rw [if_pos c14] at H
       have c14b0 : decide (0 ≤ (ji13)) = true := dt c14
       clear c14
       by_cases c15 : (ji13) < (l0.length : Int)
       · rw [if_pos c15] at H
         have c15b0 : decide ((ji13) < (l0.length : Int)) = true := dt c15
         clear c15
         obtain rfl := sj H
         have p176 : 0 ≤ ((ji13) : Int) := pD
         have q176 : (ji13) < (l0.length : Int) := pD
         obtain ⟨ad176, e176, hx176_0⟩ := Kd.at_int HR0.out (ji13) p176 q176
         cases e176; replace p176 := eq_true p176; replace q176 := eq_true q176
         go_enter Try.func65, Try.ntmps65
         go_wp2
         go_ret
         exact ⟨by first | rfl | (simp; done) | (simp only [← hji13] <;> (first | rfl | simp)) | (simp [*]; done), pW⟩
       · rw [if_neg c15] at H
         exact absurd H (by simp)
     · rw [if_neg c14] at H
       exact absurd H (by simp)
end Go.Proofs.Ytjmdfghljlmfmaa.QFnExactHeaderSum
