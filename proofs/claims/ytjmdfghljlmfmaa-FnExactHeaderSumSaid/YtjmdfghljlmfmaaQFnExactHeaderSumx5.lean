-- written by this session's program (wip/tools/myprint.py)
import Derived.Test.YtjmdfghljlmfmaaQFnExactHeaderSumx0
import Derived.Test.YtjmdfghljlmfmaaQFnExactHeaderSumx4
-- squeezed
namespace Go.Proofs.Ytjmdfghljlmfmaa.QFnExactHeaderSum
open Go.RowKit Go.Proofs.YtjmdfghljlmfmaaW.PrintWords Go.Proofs.YtjmdfghljlmfmaaW.PrintLast Go.Proofs.YtjmdfghljlmfmaaW.PrintMore
attribute [local go_sem] max2_int min2_int max_two min_two max_three min_three max_four min_four   -- for this text's walks alone
set_option linter.unusedVariables false
set_option linter.unusedSimpArgs false
set_option maxHeartbeats 8000000
set_option maxRecDepth 100000
def spec_l4Above.l0 : Nat → List Int → List Int → Int → Option (List Int)
 | 0, _, _, _ => none
 | k + 1, x0, x3, x4 => if x4 < (x0.length : Int) then (if 0 ≤ x4 then ((spec_l4Mate.f x0 x4).bind fun t181 => ((spec_l4Join.f k (rd x0 x4) t181).bind fun t182 => (if x3.length < 17592186044416 then (spec_l4Above.l0 k x0 (x3 ++ [t182]) (wrap64 (x4 + 2))) else (none)))) else (none)) else (some x3)
def spec_l4Above.f (k : Nat) (l0 : List Int) : Option (List Int) := spec_l4Above.l0 k l0 (([] : List Int)) 0
theorem spec_l4Above.mono_l : ∀ k, (∀ y0 y1 y2, LeO (spec_l4Above.l0 k y0 y1 y2) (spec_l4Above.l0 (k + 1) y0 y1 y2))
 | 0 => fun _ _ _ r h => by simp [spec_l4Above.l0] at h
 | k + 1 => by
  have ih0 := spec_l4Above.mono_l k
  · intro y0 y1 y2
    unfold spec_l4Above.l0
    repeat' with_reducible first | exact ih0 _ _ _ | exact spec_l4Join.mono _ _ _ | exact LeO.refl _ | exact LeO.none _ | refine LeO.ite ?_ ?_ | refine LeO.bind ?_ (fun _ => ?_)
theorem spec_l4Above.mono : ∀ a0 k, LeO (spec_l4Above.f k a0) (spec_l4Above.f (k + 1) a0) := by
 intro a0 k
 have ih0 := spec_l4Above.mono_l k
 unfold spec_l4Above.f
 repeat' with_reducible first | exact ih0 _ _ _ | exact spec_l4Join.mono _ _ _ | exact LeO.refl _ | exact LeO.none _ | refine LeO.ite ?_ ?_ | refine LeO.bind ?_ (fun _ => ?_)
def spec_l4Above.T5 : Bool × List (List Nat × List Nat) := (true, [([], []), ([], []), ([], []), ([1, 2], [1, 2]), ([3], [3]), ([], []), ([], []), ([5, 6], [5, 6]), ([4, 7, 7], [4, 7]), ([8], [8]), ([0, 9, 8], [0, 9]), ([10, 10, 0, 1, 2, 3, 4, 5, 6, 7, 8, 9, 10], [0, 10])])
def spec_l4Above.B5 : List Nat := [0, 0, 0, 6, 14, 0, 0, 96, 254, 510, 1023, 2047]
theorem spec_l4Above.tab5 : rtab .any (opsOf Try.f42 5) = spec_l4Above.T5 := by kernel_rfl
theorem spec_l4Above.bits5 : waitsOk spec_l4Above.T5.2 spec_l4Above.B5 = true := by kernel_rfl
theorem spec_l4Above.calls (k : Nat) (A0 : Option Addr) (c0 : Nat) (l0 : List Int) (r : List Int) (w : World) (hr0 : Kd.C (Kd.int .i64) w A0 l0.length l0) (hc0 : l0.length ≤ c0) (h : spec_l4Above.f k l0 = some r) :
 Calls Try.prog 42 #[.slice A0 l0.length c0] w fun e w' => ∃ v0_ : Value, e = .returned (v0_) ∧ Kd.R (Kd.int .i64) 2 w' w.heap.size (fun _ => True) v0_ r ∧ Below w.heap.size w w' := by
 have HR0 := am hr0; have HC0 := am hc0; clear hr0 hc0
 have HB := am (Below.refl w.heap.size w)
 have H : (spec_l4Above.l0 k l0 (([] : List Int)) 0) = some r := h
 clear h
 obtain ⟨y177, hy177⟩ : ∃ y_ : List Int, y_ = (([] : List Int)) := ⟨_, rfl⟩
 replace H : (spec_l4Above.l0 k l0 y177 0) = some r := by first | (rw [hy177]; with_reducible exact H) | (have H2_ := (Option.bind_some _ _).symm.trans H; rw [hy177]; with_reducible exact H2_) | (have H2_ := (Option.bind_some _ _).symm.trans H; with_reducible exact H2_) | with_reducible exact H | (rw [hy177]; exact H) | exact H
 have Ny177 := am hy177; clear hy177
 have H' := am H
 clear H
 go_enter Try.func42, Try.ntmps42
 go_wp2_with (first | ((with_reducible refine gate_dst (N := 5) rfl ?_); refine Kd.R_lit (Kd.int .i64) _ 2 ?hg (N := 5) ?hd (xs := ([] : List Int)) (inner := []) (ok := fun _ => True) (okp := fun _ => True) ?hr ?hp (fun _ hk => hk) trivial (Below.refl _ _) (Nat.le_refl _) (by simp) ?_; (case hd => rfl); (case hg => rfl); (case hr => first | (go_simp; done) | (go_simp; rfl)); (case hp => exact (Reps.none _ _)); intro v178 w2 ho3 hb hg_ hnew_; clear hg_ hnew_; (first | rw [← Ny177.out] at ho3 | (simp only [Int.reduceToNat] at ho3; rw [← Ny177.out] at ho3)); have n_ := t2 (rL ho3 (bs_ pB)) (bz_ pB hb); clear HB; obtain ⟨HO179, HB⟩ := n_; clear hb ho3))
 go_loopg [3, 4] k (fun kq v3 v4 w' => ∃ (x3_1 : List Int) (x4_1 : Int), v4 = .int .i64 x4_1 ∧ Aside0 (spec_l4Above.l0 kq l0 x3_1 x4_1 = some r) ∧ Aside0 (kq ≤ k) ∧ Aside0 (Kd.R (Kd.int .i64) 2 w' w.heap.size (fun _ => True) v3 x3_1) ∧ Aside0 (Below w.heap.size w w'))
 case atStart => exact ⟨(y177), (0), pF, H', ⟨Nat.le_refl _⟩, ⟨(pR HO179)⟩, ⟨pB⟩⟩
 case round =>
  clear H'
  obtain ⟨x3_1, x4_1, rfl, HA, HK1, HO_3, HB⟩ := hrel
  cases gk with
  | zero => exact absurd HA.out (by simp [spec_l4Above.l0])
  | succ k1 =>
   have H := HA.out
   clear HA
   simp only [spec_l4Above.l0] at H
   by_cases c4 : x4_1 < (l0.length : Int)
   · rw [if_pos c4] at H
     have c4b0 : decide (x4_1 < (l0.length : Int)) = true := dt c4
     clear c4
     by_cases c5 : 0 ≤ x4_1
     · rw [if_pos c5] at H
       have c5b0 : decide (0 ≤ x4_1) = true := dt c5
       clear c5
       obtain ⟨t181, A60, H⟩ := bO H
       replace H : ((spec_l4Join.f k1 (rd l0 x4_1) t181).bind fun t182 => (if x3_1.length < 17592186044416 then (spec_l4Above.l0 k1 l0 (x3_1 ++ [t182]) (wrap64 (x4_1 + 2))) else (none))) = some r := H
       have A6 := am A60; clear A60
       obtain ⟨t182, A70, H⟩ := bO H
       replace H : (if x3_1.length < 17592186044416 then (spec_l4Above.l0 k1 l0 (x3_1 ++ [t182]) (wrap64 (x4_1 + 2))) else (none)) = some r := H
       have A7 := am A70; clear A70
       by_cases c8 : x3_1.length < 17592186044416
       · rw [if_pos c8] at H
         have LMc8 := am c8; clear c8
         obtain ⟨y183, hy183⟩ : ∃ y_ : List Int, y_ = (x3_1 ++ [t182]) := ⟨_, rfl⟩
         replace H : (spec_l4Above.l0 k1 l0 y183 (wrap64 (x4_1 + 2))) = some r := by first | (rw [hy183]; with_reducible exact H) | (have H2_ := (Option.bind_some _ _).symm.trans H; rw [hy183]; with_reducible exact H2_) | (have H2_ := (Option.bind_some _ _).symm.trans H; with_reducible exact H2_) | with_reducible exact H | (rw [hy183]; exact H) | exact H
         have Ny183 := am hy183; clear hy183
         have H' := am H
         clear H
         try go_wp2
         have n_ := t2 (Kd.R_drew HO_3.out) (below_drew1 HB.out)
         clear HO_3 HB; obtain ⟨HO_3, HB⟩ := n_
         have p180 : 0 ≤ (x4_1 : Int) := pD
         have q180 : x4_1 < (l0.length : Int) := pD
         obtain ⟨ad180, e180, hx180_0⟩ := Kd.at_int HR0.out x4_1 p180 q180
         have hw180_0 := hx180_0
         cases e180; replace hx180_0 := cb HB hx180_0; replace p180 := eq_true p180; replace q180 := eq_true q180
         refine start_ (n := 12) (S := fun w' => w'.cell? (ad180.add (x4_1).toNat) = some (.int .i64 (rd l0 x4_1))) (ds := []) #[false, false, false, false, false, false, false, false, false, false, false, false] (by kernel_rfl) rfl rfl ((cb HB hw180_0)) (fun hHeld => ?_); refine with_tabW spec_l4Above.tab5 spec_l4Above.bits5 (fun HT_ HW_ => ?_)
         generalize wr.drew = w9 at HO_3 HB hx180_0 hHeld ⊢
         refine rP 0 (some 12) #[true, false, false, false, false, false, false, false, false, false, false, false] (any_of HT_.out (by kernel_rfl)) ?_
         refine rP 1 (some 13) #[true, true, false, false, false, false, false, false, false, false, false, false] (any_of HT_.out (by kernel_rfl)) ?_
         refine rP 2 (some 14) #[true, true, true, false, false, false, false, false, false, false, false, false] (any_of HT_.out (by kernel_rfl)) ?_
         refine rP 3 (some 15) #[true, true, true, true, false, false, false, false, false, false, false, false] (any_of HT_.out (by kernel_rfl)) ?_
         refine rP 5 (some 17) #[true, true, true, true, false, true, false, false, false, false, false, false] (any_of HT_.out (by kernel_rfl)) ?_
         refine rP 6 (some 18) #[true, true, true, true, false, true, true, false, false, false, false, false] (any_of HT_.out (by kernel_rfl)) ?_
         refine rT 4 (some 16) #[true, true, true, true, true, true, true, false, false, false, false, false] (take_ofW HT_.out HW_.out (by kernel_rfl)) hHeld ?_
         refine one_ (i := 7) (N := some 19) #[true, true, true, true, true, true, true, true, false, false, false, false] rfl rfl (one_of HT_.out (by kernel_rfl)) (by decide) (fun K hK => ?_)
         refine goes_ Try.func65 (by kernel_rfl) rfl #[.slice (some ad180) l0.length c0, .int .i64 x4_1] (by rfl) rfl rfl pA ?_
         with_reducible refine (spec_l4Mate.calls _ _ l0 x4_1 t181 _ ?side1 ?side2 A6.out).mono ?_
         (case side1 => exact pC (Kd.C_below HR0.out HB.out))
         (case side2 => exact HC0.out)
         rintro e w' ⟨rfl, ⟨nd, rfl⟩⟩
         refine ⟨_, rfl, ?_⟩
         refine hK.out _ _ ((cb HB hw180_0)) (fun hHeld => ?_)
         clear hK K
         refine rN ?_
         refine one_ (i := 8) (N := some 20) #[true, true, true, true, true, true, true, true, true, false, false, false] rfl rfl (one_of HT_.out (by kernel_rfl)) (by decide) (fun K hK => ?_)
         refine goes_ Try.func64 (by kernel_rfl) rfl #[.int .i64 (rd l0 x4_1), .int .i64 t181] (by rfl) rfl rfl pA ?_
         with_reducible refine (spec_l4Join.calls k1 (rd l0 x4_1) t181 t182 _ A7.out).mono ?_
         rintro e w10 ⟨rfl, hb⟩
         refine ⟨_, rfl, ?_⟩
         have n_ := t2 (Kd.R_below (pR HO_3) hb) (bz_ pB hb)
         clear HO_3 HB; obtain ⟨HO_3, HB⟩ := n_; (try clear hb); (try clear hb2); (try clear hk); (try clear hi)
         refine hK.out _ _ ((cb HB hw180_0)) (fun hHeld => ?_)
         clear hK K
         refine rN ?_
         refine one_ (i := 9) (N := some 21) #[true, true, true, true, true, true, true, true, true, true, false, false] rfl rfl (one_of HT_.out (by kernel_rfl)) (by decide) (fun K hK => ?_)
         refine value_ (w1 := ?_) (v := ?_) (by rfl) rfl ?_ ?_
         rotate_left 2
         · go_simp
           constructor
           · rfl
           · rfl
         refine hK.out _ _ ((World.cell?_alloc_lt _ _ _ (World.block_lt_of_cell? _ _ ((cb HB hw180_0)))).trans ((cb HB hw180_0))) (fun hHeld => ?_)
         clear hK K
         refine rN ?_
         refine one_ (i := 10) (N := some 22) #[true, true, true, true, true, true, true, true, true, true, true, false] rfl rfl (one_of HT_.out (by kernel_rfl)) (by decide) (fun K hK => ?_)
         refine Kd.R_append_step (Kd.int .i64) (w0 := w) w.heap.size (by rfl) (.tmp 12) (.tmp 21) 57 2 (.int .i64 0) 8 rfl Try.underlying57 info2 rfl (by decide) (by omega) u3 x3_1 t182 [.int .i64 t182] (fun _ => True) (fun _ => False) rfl rfl ?aP (fun _ hk => hk.elim) ?aF ?aO ?aB ?aS ?aL ?_
         (case aP => exact rfl)
         (case aB => exact pB)
         (case aF => exact (fun _ _ => trivial))
         (case aO => exact (pR HO_3))
         (case aS => exact (bs_ pB))
         (case aL => have := LMc8.out; omega)
         intro v184 w11 ho hb hg hat
         rw [← Ny183.out] at ho
         have n_ := t2 (hb) (ho)
         clear HB HO_3; obtain ⟨HB, HO185⟩ := n_; clear ho hb hg hat
         refine hK.out _ _ ((cb HB hw180_0)) (fun hHeld => ?_)
         clear hK K
         refine rN ?_
         refine rP 11 (some 3) #[true, true, true, true, true, true, true, true, true, true, true, true] (any_of HT_.out (by kernel_rfl)) ?_
         refine done_ (done_of HT_.out (by kernel_rfl)) ?_
         try go_wp2
         go_roundg k1
         case measure => have := HK1.out; omega
         case rel => exact ⟨(y183), (wrap64 (x4_1 + 2)), pF, H', ⟨by have := HK1.out; omega⟩, ⟨(pR HO185)⟩, ⟨pB⟩⟩
       · rw [if_neg c8] at H
         exact absurd H (by simp)
     · rw [if_neg c5] at H
       exact absurd H (by simp)
   · rw [if_neg c4] at H
     have c4b0 : decide (x4_1 < (l0.length : Int)) = false := decide_eq_false c4
     clear c4
     obtain rfl := sj H
     go_wp2
     go_ret
     exact ⟨_, pE, (pR HO_3), pB⟩
mutual
def spec_l4Twin.l0 : Nat → List Int → Option (Bool)
 | 0, _ => none
 | k + 1, x3 => if (x3.length : Int) > 1 then (spec_l4Twin.l1 k x3 0) else (some false)
def spec_l4Twin.l1 : Nat → List Int → Int → Option (Bool)
 | 0, _, _ => none
 | k + 1, x3, x4 => if (wrap64 (x4 + 1)) < (x3.length : Int) then (if 0 ≤ x4 then (if x4 < (x3.length : Int) then (if 0 ≤ (wrap64 (x4 + 1)) then (if (rd x3 x4) = (rd x3 (wrap64 (x4 + 1))) then (some true) else (spec_l4Twin.l1 k x3 (wrap64 (x4 + 2)))) else (none)) else (none)) else (none)) else ((spec_l4Above.f k x3).bind fun t188 => (spec_l4Twin.l0 k t188))
end
def spec_l4Twin.f (k : Nat) (l0 : List Int) : Option (Bool) := spec_l4Twin.l0 k l0
theorem spec_l4Twin.mono_l : ∀ k, (∀ y0, LeO (spec_l4Twin.l0 k y0) (spec_l4Twin.l0 (k + 1) y0)) ∧ (∀ y0 y1, LeO (spec_l4Twin.l1 k y0 y1) (spec_l4Twin.l1 (k + 1) y0 y1))
 | 0 => ⟨fun _ r h => by simp [spec_l4Twin.l0] at h, fun _ _ r h => by simp [spec_l4Twin.l1] at h⟩
 | k + 1 => by
  obtain ⟨ih0, ih1⟩ := spec_l4Twin.mono_l k
  refine ⟨?_, ?_⟩
  · intro y0
    unfold spec_l4Twin.l0
    repeat' with_reducible first | exact ih0 _ | exact ih1 _ _ | exact spec_l4Above.mono _ _ | exact LeO.refl _ | exact LeO.none _ | refine LeO.ite ?_ ?_ | refine LeO.bind ?_ (fun _ => ?_)
  · intro y0 y1
    unfold spec_l4Twin.l1
    repeat' with_reducible first | exact ih0 _ | exact ih1 _ _ | exact spec_l4Above.mono _ _ | exact LeO.refl _ | exact LeO.none _ | refine LeO.ite ?_ ?_ | refine LeO.bind ?_ (fun _ => ?_)
theorem spec_l4Twin.mono : ∀ a0 k, LeO (spec_l4Twin.f k a0) (spec_l4Twin.f (k + 1) a0) := by
 intro a0 k
 obtain ⟨ih0, ih1⟩ := spec_l4Twin.mono_l k
 unfold spec_l4Twin.f
 repeat' with_reducible first | exact ih0 _ | exact ih1 _ _ | exact spec_l4Above.mono _ _ | exact LeO.refl _ | exact LeO.none _ | refine LeO.ite ?_ ?_ | refine LeO.bind ?_ (fun _ => ?_)
theorem spec_l4Twin.calls (k : Nat) (P0_ : Nat → Prop) (A0 : Option Addr) (c0 : Nat) (l0 : List Int) (r : Bool) (w : World) (hs0 : Kd.V (Kd.int .i64) 2 w w.heap.size (fun k_ => P0_ k_) (.slice A0 l0.length c0) l0) (h : spec_l4Twin.f k l0 = some r) :
 Calls Try.prog 23 #[.slice A0 l0.length c0] w fun e w' => e = .returned (.bool r) ∧ Below w.heap.size w w' := by
 have HO0 := am (show Kd.V (Kd.int .i64) 2 w w.heap.size (fun k_ => (P0_ k_ ∨ w.heap.size ≤ k_)) (.slice A0 l0.length c0) l0 from Kd.V_mono hs0 (fun k_ hk => .inl hk))
 have HB := am (Below.refl w.heap.size w)
 have H : (spec_l4Twin.l0 k l0) = some r := h
 clear h
 have H' := am H
 clear H
 go_enter Try.func23, Try.ntmps23
 go_wp2
 repeat (go_quiet (fail); try go_wp2)
 go_loopg [3] k (fun kq v3 w' => ∃ (x3_1 : List Int), Aside0 (spec_l4Twin.l0 kq x3_1 = some r) ∧ Aside0 (kq ≤ k) ∧ Aside0 (Kd.V (Kd.int .i64) 2 w' w.heap.size (fun k_ => (P0_ k_ ∨ w.heap.size ≤ k_)) v3 x3_1) ∧ Aside0 (Below w.heap.size w w'))
 case atStart => exact ⟨(l0), H', ⟨Nat.le_refl _⟩, ⟨by (with_reducible repeat (first | apply Kd.V_alloc | apply Kd.V_drewN | apply Kd.V_drew)); exact HO0.out⟩, ⟨pB⟩⟩
 case round =>
  clear H'
  obtain ⟨x3_1, HA, HK1, HO_3, HB⟩ := hrel
  cases gk with
  | zero => exact absurd HA.out (by simp [spec_l4Twin.l0])
  | succ k1 =>
   have H := HA.out
   clear HA
   simp only [spec_l4Twin.l0] at H
   by_cases c2 : (x3_1.length : Int) > 1
   · rw [if_pos c2] at H
     have c2b0 : decide (1 < (x3_1.length : Int)) = true := dt c2
     have c2b1 : decide (1 < x3_1.length) = true := dt (by omega)
     clear c2
     have H' := am H
     clear H
     obtain ⟨Ao3, co3, eo3⟩ := Kd.V_slice HO_3.out
     subst eo3
     go_wp2
     repeat (go_quiet (fail); try go_wp2)
     go_loopg [4] k1 (fun kq v4 w' => ∃ (x4_2 : Int), v4 = .int .i64 x4_2 ∧ Aside0 (spec_l4Twin.l1 kq x3_1 x4_2 = some r) ∧ Aside0 (kq ≤ k1) ∧ Aside0 (Kd.V (Kd.int .i64) 2 w' w.heap.size (fun k_ => (P0_ k_ ∨ w.heap.size ≤ k_)) (.slice Ao3 x3_1.length co3) x3_1) ∧ Aside0 (Below w.heap.size w w'))
     case atStart => exact ⟨(0), pF, H', ⟨Nat.le_refl _⟩, ⟨by (with_reducible repeat (first | apply Kd.V_alloc | apply Kd.V_drewN | apply Kd.V_drew)); exact HO_3.out⟩, ⟨pB⟩⟩
     case round =>
      clear H'
      (try clear c2); (try clear c2b0); (try clear c2b1)
      obtain ⟨x4_2, rfl, HA, HK2, HO_3, HB⟩ := hrel
      cases gk with
      | zero => exact absurd HA.out (by simp [spec_l4Twin.l1])
      | succ k2 =>
       have H := HA.out
       clear HA
       simp only [spec_l4Twin.l1] at H
       by_cases c4 : (wrap64 (x4_2 + 1)) < (x3_1.length : Int)
       · rw [if_pos c4] at H
         have c4b0 : decide ((wrap64 (x4_2 + 1)) < (x3_1.length : Int)) = true := dt c4
         clear c4
         by_cases c5 : 0 ≤ x4_2
         · rw [if_pos c5] at H
           have c5b0 : decide (0 ≤ x4_2) = true := dt c5
           clear c5
           by_cases c6 : x4_2 < (x3_1.length : Int)
           · rw [if_pos c6] at H
             have c6b0 : decide (x4_2 < (x3_1.length : Int)) = true := dt c6
             clear c6
             obtain ⟨ji7, hji7⟩ : ∃ j_ : Int, (wrap64 (x4_2 + 1)) = j_ := ⟨_, rfl⟩
             replace H : (if 0 ≤ (ji7) then (if (rd x3_1 x4_2) = (rd x3_1 (ji7)) then (some true) else (spec_l4Twin.l1 k2 x3_1 (wrap64 (x4_2 + 2)))) else (none)) = some r := by first | (rw [hji7] at H; exact H) | (simp only [hji7] at H ⊢; exact H)
             (try rw [hji7] at c4b0)
             have hji7w : (IntKind.i64.wrap (x4_2 + 1)) = ji7 := (i64_w _).trans hji7
             by_cases c8 : 0 ≤ (ji7)
             · rw [if_pos c8] at H
               have c8b0 : decide (0 ≤ (ji7)) = true := dt c8
               clear c8
               by_cases c9 : (rd x3_1 x4_2) = (rd x3_1 (ji7))
               · rw [if_pos c9] at H
                 have c9b0 : ((rd x3_1 x4_2) == (rd x3_1 (ji7))) = true := beq_iff_eq.mpr c9
                 have c9b1 : ((rd x3_1 x4_2) != (rd x3_1 (ji7))) = false := bne_eq_false_iff_eq.mpr c9
                 clear c9
                 obtain rfl := sj H
                 have p186 : 0 ≤ (x4_2 : Int) := pD
                 have q186 : x4_2 < (x3_1.length : Int) := pD
                 obtain ⟨ad186, e186, hx186_0⟩ := Kd.at_int (Kd.V_reads' HO_3.out).2.2 x4_2 p186 q186
                 cases e186; replace p186 := eq_true p186; replace q186 := eq_true q186
                 have p187 : 0 ≤ ((ji7) : Int) := pD
                 have q187 : (ji7) < (x3_1.length : Int) := pD
                 obtain ⟨ad187, e187, hx187_0⟩ := Kd.at_int (Kd.V_reads' HO_3.out).2.2 (ji7) p187 q187
                 obtain rfl : ad186 = ad187 := (by injection e187)
                 replace p187 := eq_true p187; replace q187 := eq_true q187
                 go_wp2
                 repeat (go_quiet (fail); try go_wp2)
                 go_ret
                 exact ⟨by first | rfl | (simp [errW_none, errW_some] <;> rfl) | (simp only [← hji7]; first | rfl | (simp [errW_none, errW_some] <;> rfl)) | (simp [*, errW_none, errW_some] <;> rfl), pB⟩
               · rw [if_neg c9] at H
                 have c9b0 : ((rd x3_1 x4_2) == (rd x3_1 (ji7))) = false := beq_eq_false_iff_ne.mpr c9
                 have c9b1 : ((rd x3_1 x4_2) != (rd x3_1 (ji7))) = true := bne_iff_ne.mpr c9
                 have H' := am H
                 clear H
                 have p186 : 0 ≤ (x4_2 : Int) := pD
                 have q186 : x4_2 < (x3_1.length : Int) := pD
                 obtain ⟨ad186, e186, hx186_0⟩ := Kd.at_int (Kd.V_reads' HO_3.out).2.2 x4_2 p186 q186
                 cases e186; replace p186 := eq_true p186; replace q186 := eq_true q186
                 have p187 : 0 ≤ ((ji7) : Int) := pD
                 have q187 : (ji7) < (x3_1.length : Int) := pD
                 obtain ⟨ad187, e187, hx187_0⟩ := Kd.at_int (Kd.V_reads' HO_3.out).2.2 (ji7) p187 q187
                 obtain rfl : ad186 = ad187 := (by injection e187)
                 replace p187 := eq_true p187; replace q187 := eq_true q187
                 go_wp2
                 repeat (go_quiet (fail); try go_wp2)
                 go_roundg k2
                 case measure => have := HK1.out; have := HK2.out; omega
                 case rel => exact ⟨(wrap64 (x4_2 + 2)), pF, H', ⟨by have := HK1.out; have := HK2.out; omega⟩, ⟨by (with_reducible repeat (first | apply Kd.V_alloc | apply Kd.V_drewN | apply Kd.V_drew)); exact HO_3.out⟩, ⟨pB⟩⟩
             · rw [if_neg c8] at H
               exact absurd H (by simp)
           · rw [if_neg c6] at H
             exact absurd H (by simp)
         · rw [if_neg c5] at H
           exact absurd H (by simp)
       · rw [if_neg c4] at H
         have c4b0 : decide ((wrap64 (x4_2 + 1)) < (x3_1.length : Int)) = false := decide_eq_false c4
         clear c4
         obtain ⟨t188, A100, H⟩ := bO H
         replace H : (spec_l4Twin.l0 k2 t188) = some r := H
         have A10 := am A100; clear A100
         have H' := am H
         clear H
         go_wp2_with (first | (go_at_call 42; (with_reducible refine (spec_l4Above.calls k2 _ _ x3_1 t188 _ ?side1 ?side2 A10.out).mono ?_); (case side1 => exact pC (Kd.V_reads' HO_3.out).2.2); (case side2 => exact (Kd.V_reads' HO_3.out).2.1); rintro e w11 ⟨v189, rfl, ho0, hb⟩; have n_ := t3 (Kd.V_elder' (by (with_reducible repeat (first | apply Kd.V_alloc | apply Kd.V_drewN | apply Kd.V_drew)); exact HO_3.out) (rB ho0) hb) (rL (Kd.R_newM (M := fun k_ => (w.heap.size ≤ k_)) ho0 (bs_ pB) (fun k_ h_ => h_)) (bs_ pB)) (bz_ pB hb); clear HO_3 HB; obtain ⟨HO_3, HO190, HB⟩ := n_; (try clear hb); (try clear ho0)))
         repeat (go_quiet (first | (go_at_call 42; (with_reducible refine (spec_l4Above.calls k2 _ _ x3_1 t188 _ ?side1 ?side2 A10.out).mono ?_); (case side1 => exact pC (Kd.V_reads' HO_3.out).2.2); (case side2 => exact (Kd.V_reads' HO_3.out).2.1); rintro e w11 ⟨v189, rfl, ho0, hb⟩; have n_ := t3 (Kd.V_elder' (by (with_reducible repeat (first | apply Kd.V_alloc | apply Kd.V_drewN | apply Kd.V_drew)); exact HO_3.out) (rB ho0) hb) (rL (Kd.R_newM (M := fun k_ => (w.heap.size ≤ k_)) ho0 (bs_ pB) (fun k_ h_ => h_)) (bs_ pB)) (bz_ pB hb); clear HO_3 HB; obtain ⟨HO_3, HO190, HB⟩ := n_; (try clear hb); (try clear ho0))); try go_wp2_with (first | (go_at_call 42; (with_reducible refine (spec_l4Above.calls k2 _ _ x3_1 t188 _ ?side1 ?side2 A10.out).mono ?_); (case side1 => exact pC (Kd.V_reads' HO_3.out).2.2); (case side2 => exact (Kd.V_reads' HO_3.out).2.1); rintro e w11 ⟨v189, rfl, ho0, hb⟩; have n_ := t3 (Kd.V_elder' (by (with_reducible repeat (first | apply Kd.V_alloc | apply Kd.V_drewN | apply Kd.V_drew)); exact HO_3.out) (rB ho0) hb) (rL (Kd.R_newM (M := fun k_ => (w.heap.size ≤ k_)) ho0 (bs_ pB) (fun k_ h_ => h_)) (bs_ pB)) (bz_ pB hb); clear HO_3 HB; obtain ⟨HO_3, HO190, HB⟩ := n_; (try clear hb); (try clear ho0))))
         go_roundg k2
         case measure => have := HK1.out; have := HK2.out; omega
         case rel => exact ⟨(t188), H', ⟨by have := HK1.out; have := HK2.out; omega⟩, ⟨Kd.V_mono (Kd.R_V (pT (Kd.R_mono HO190.out (fun _ hk => hk.1)))) (fun k_ hk => by first | exact ⟨(.inr (hk.1)), hk.2⟩ | exact (.inr (hk)))⟩, ⟨pB⟩⟩
   · rw [if_neg c2] at H
     have c2b0 : decide (1 < (x3_1.length : Int)) = false := decide_eq_false c2
     have c2b1 : decide (1 < x3_1.length) = false := decide_eq_false (by omega)
     clear c2
     obtain rfl := sj H
     obtain ⟨Ao12, co12, eo12⟩ := Kd.V_slice HO_3.out
     subst eo12
     go_wp2
     repeat (go_quiet (fail); try go_wp2)
     go_ret
     exact ⟨pE, pB⟩
def spec_l3Put.f (a0 : Int) : Option (List Int) := if a0 < 253 then (some (([(a0) % 256] : List Int))) else (some (([253, (Int.tmod a0 256) % 256, (wrap64 (Int.tdiv a0 256)) % 256] : List Int)))
theorem spec_l3Put.calls (a0 : Int) (r : List Int) (w : World) (h : spec_l3Put.f a0 = some r) :
 Calls Try.prog 81 #[.int .i64 a0] w fun e w' => ∃ v0_ : Value, e = .returned (v0_) ∧ Kd.R (Kd.int .u8) 5 w' w.heap.size (fun _ => True) v0_ r ∧ Below w.heap.size w w' := by
 have HB := am (Below.refl w.heap.size w)
 have H : (if a0 < 253 then (some (([(a0) % 256] : List Int))) else (some (([253, (Int.tmod a0 256) % 256, (wrap64 (Int.tdiv a0 256)) % 256] : List Int)))) = some r := h
 clear h
 by_cases c2 : a0 < 253
 · rw [if_pos c2] at H
   have c2b0 : decide (a0 < 253) = true := dt c2
   clear c2
   obtain ⟨y191, hy191⟩ : ∃ y_ : List Int, y_ = (([(a0) % 256] : List Int)) := ⟨_, rfl⟩
   replace H : (some y191) = some r := by first | (rw [hy191]; with_reducible exact H) | (have H2_ := (Option.bind_some _ _).symm.trans H; rw [hy191]; with_reducible exact H2_) | (have H2_ := (Option.bind_some _ _).symm.trans H; with_reducible exact H2_) | with_reducible exact H | (rw [hy191]; exact H) | exact H
   have Ny191 := am hy191; clear hy191
   obtain rfl := sj H
   go_enter Try.func81, Try.ntmps81
   go_wp2_with (first | ((with_reducible refine gate_dst (N := 7) rfl ?_); refine Kd.R_lit (Kd.int .u8) _ 5 ?hg (N := 7) ?hd (xs := ([(a0) % 256] : List Int)) (inner := [.int .u8 ((a0) % 256)]) (ok := fun _ => True) (okp := fun _ => True) ?hr ?hp (fun _ hk => hk) trivial (Below.refl _ _) (Nat.le_refl _) (by simp) ?_; (case hd => rfl); (case hg => rfl); (case hr => first | (go_simp; done) | (go_simp; rfl)); (case hp => exact (Reps.one (show Kd.M (Kd.int .u8) _ _ _ ((a0) % 256) [.int .u8 ((a0) % 256)] from rfl) (Reps.none _ _))); intro v192 w3 ho4 hb hg_ hnew_; clear hg_ hnew_; (first | rw [← Ny191.out] at ho4 | (simp only [Int.reduceToNat] at ho4; rw [← Ny191.out] at ho4)); have n_ := t2 (rL ho4 (bs_ pB)) (bz_ pB hb); clear HB; obtain ⟨HO193, HB⟩ := n_; clear hb ho4))
   go_ret
   exact ⟨_, pE, (pR HO193), pB⟩
 · rw [if_neg c2] at H
   have c2b0 : decide (a0 < 253) = false := decide_eq_false c2
   clear c2
   obtain ⟨y194, hy194⟩ : ∃ y_ : List Int, y_ = (([253, (Int.tmod a0 256) % 256, (wrap64 (Int.tdiv a0 256)) % 256] : List Int)) := ⟨_, rfl⟩
   replace H : (some y194) = some r := by first | (rw [hy194]; with_reducible exact H) | (have H2_ := (Option.bind_some _ _).symm.trans H; rw [hy194]; with_reducible exact H2_) | (have H2_ := (Option.bind_some _ _).symm.trans H; with_reducible exact H2_) | with_reducible exact H | (rw [hy194]; exact H) | exact H
   have Ny194 := am hy194; clear hy194
   obtain rfl := sj H
   go_enter Try.func81, Try.ntmps81
   go_wp2_with (first | ((with_reducible refine gate_dst (N := 14) rfl ?_); refine Kd.R_lit (Kd.int .u8) _ 5 ?hg (N := 14) ?hd (xs := ([253, (Int.tmod a0 256) % 256, (wrap64 (Int.tdiv a0 256)) % 256] : List Int)) (inner := [.int .u8 253, .int .u8 ((Int.tmod a0 256) % 256), .int .u8 ((wrap64 (Int.tdiv a0 256)) % 256)]) (ok := fun _ => True) (okp := fun _ => True) ?hr ?hp (fun _ hk => hk) trivial (Below.refl _ _) (Nat.le_refl _) (by simp) ?_; (case hd => rfl); (case hg => rfl); (case hr => first | (go_simp; done) | (go_simp; rfl)); (case hp => exact (Reps.one (show Kd.M (Kd.int .u8) _ _ _ 253 [.int .u8 253] from rfl) (Reps.one (show Kd.M (Kd.int .u8) _ _ _ ((Int.tmod a0 256) % 256) [.int .u8 ((Int.tmod a0 256) % 256)] from rfl) (Reps.one (show Kd.M (Kd.int .u8) _ _ _ ((wrap64 (Int.tdiv a0 256)) % 256) [.int .u8 ((wrap64 (Int.tdiv a0 256)) % 256)] from rfl) (Reps.none _ _))))); intro v195 w5 ho6 hb hg_ hnew_; clear hg_ hnew_; (first | rw [← Ny194.out] at ho6 | (simp only [Int.reduceToNat] at ho6; rw [← Ny194.out] at ho6)); have n_ := t2 (rL ho6 (bs_ pB)) (bz_ pB hb); clear HB; obtain ⟨HO196, HB⟩ := n_; clear hb ho6))
   go_ret
   exact ⟨_, pE, (pR HO196), pB⟩
def spec_l3Big.f (a0 : Int) : Option (List Int) := (spec_l3Put.f (Int.tmod a0 65536)).bind fun t197 => ((spec_l3Put.f (wrap64 (Int.tdiv a0 65536))).bind fun t200 => (if t197.length + t200.length < 140737488355328 then (some (t197 ++ t200)) else (none)))
theorem spec_l3Big.calls (a0 : Int) (r : List Int) (w : World) (h : spec_l3Big.f a0 = some r) :
 Calls Try.prog 82 #[.int .i64 a0] w fun e w' => ∃ v0_ : Value, e = .returned (v0_) ∧ Kd.R (Kd.int .u8) 5 w' w.heap.size (fun _ => True) v0_ r ∧ Below w.heap.size w w' := by
 have HB := am (Below.refl w.heap.size w)
 have H : ((spec_l3Put.f (Int.tmod a0 65536)).bind fun t197 => ((spec_l3Put.f (wrap64 (Int.tdiv a0 65536))).bind fun t200 => (if t197.length + t200.length < 140737488355328 then (some (t197 ++ t200)) else (none)))) = some r := h
 clear h
 obtain ⟨t197, A20, H⟩ := bO H
 replace H : ((spec_l3Put.f (wrap64 (Int.tdiv a0 65536))).bind fun t200 => (if t197.length + t200.length < 140737488355328 then (some (t197 ++ t200)) else (none))) = some r := H
 have A2 := am A20; clear A20
 obtain ⟨t200, A30, H⟩ := bO H
 replace H : (if t197.length + t200.length < 140737488355328 then (some (t197 ++ t200)) else (none)) = some r := H
 have A3 := am A30; clear A30
 by_cases c4 : t197.length + t200.length < 140737488355328
 · rw [if_pos c4] at H
   have LMc4 := am c4; clear c4
   obtain ⟨y203, hy203⟩ : ∃ y_ : List Int, y_ = (t197 ++ t200) := ⟨_, rfl⟩
   replace H : (some y203) = some r := by first | (rw [hy203]; with_reducible exact H) | (have H2_ := (Option.bind_some _ _).symm.trans H; rw [hy203]; with_reducible exact H2_) | (have H2_ := (Option.bind_some _ _).symm.trans H; with_reducible exact H2_) | with_reducible exact H | (rw [hy203]; exact H) | exact H
   have Ny203 := am hy203; clear hy203
   obtain rfl := sj H
   go_enter Try.func82, Try.ntmps82
   go_wp2_with (first | ((with_reducible refine gC (f := 81) rfl ?_); refine goesL_ (some 5) rfl rfl Try.func81 (by kernel_rfl) rfl #[.int .i64 (Int.tmod a0 65536)] rfl pA ?_; (with_reducible refine (spec_l3Put.calls (Int.tmod a0 65536) t197 _ A2.out).mono ?_); rintro e w5 ⟨v198, rfl, ho0, hb⟩; refine ⟨_, rfl, ?_⟩; have n_ := t2 (rL ho0 (bs_ pB)) (bz_ pB hb); clear HB; obtain ⟨HO199, HB⟩ := n_; (try clear hb); (try clear ho0)) | ((with_reducible refine gC (f := 81) rfl ?_); refine goesL_ (some 8) rfl rfl Try.func81 (by kernel_rfl) rfl #[.int .i64 (wrap64 (Int.tdiv a0 65536))] rfl pA ?_; (with_reducible refine (spec_l3Put.calls (wrap64 (Int.tdiv a0 65536)) t200 _ A3.out).mono ?_); rintro e w6 ⟨v201, rfl, ho0, hb⟩; refine ⟨_, rfl, ?_⟩; have n_ := t3 (rE (pR HO199) (rB ho0) hb) (rL (rW ho0 (Kd.R_lt (pR HO199))) (bs_ pB)) (bz_ pB hb); clear HO199 HB; obtain ⟨HO199, HO202, HB⟩ := n_; (try clear hb); (try clear ho0); obtain ⟨Ao8, co8, eo8⟩ := rS HO202.out; subst eo8) | ((with_reducible refine gB (b := .append) (xs := #[.tmp 5, .tmp 8]) rfl ?_); at_builtin; refine Kd.R_append_rows (Kd.int .u8) (w0 := w) w.heap.size rfl (.tmp 5) (.tmp 8) 71 5 (.int .u8 0) 1 rfl Try.underlying71 info5 rfl (by decide) (by omega) v198 t197 t200 _ _ _ (fun k_ => some k_ ≠ (.slice Ao8 t200.length co8 : Value).ownBlock) (fun _ => False) rfl rfl ?aO ?aR (fun _ _ h => h) (fun _ h => h.elim) ?aF ?aB ?aS ?aL ?_; (case aR => exact pC (rr HO202.out).2.2); (case aB => exact pB); (case aF => exact (fun k_ hk => Kd.fresh' (Kd.R_lt (pR HO202)) k_ hk)); (case aO => exact (pT (Kd.R_mono HO199.out (fun _ hk => hk.2)))); (case aS => exact (bs_ pB)); (case aL => have := LMc4.out; omega); intro v204 w7 ho hb hg hat; rw [← Ny203.out] at ho; have n_ := t3 (Kd.R_after (ok := (fun _ => True)) (pR HO202) hg hat) (hb) (ho); clear HO202 HB HO199; obtain ⟨HO202, HB, HO205⟩ := n_; clear ho hb hg hat))
   go_ret
   exact ⟨_, pE, (pT (Kd.R_mono HO205.out (fun _ hk => trivial))), pB⟩
 · rw [if_neg c4] at H
   exact absurd H (by simp)
def spec_l3List.l0 : Nat → List Int → List Int → Int → Option (List Int)
 | 0, _, _, _ => none
 | k + 1, x0, x3, x4 => if x4 < (x0.length : Int) then (if 0 ≤ x4 then ((spec_l3Put.f (rd x0 x4)).bind fun t210 => (if x3.length + t210.length < 140737488355328 then (spec_l3List.l0 k x0 (x3 ++ t210) (wrap64 (x4 + 1))) else (none))) else (none)) else (some x3)
def spec_l3List.f (k : Nat) (l0 : List Int) : Option (List Int) := (spec_l3Put.f (l0.length : Int)).bind fun t206 => (spec_l3List.l0 k l0 t206 0)
theorem spec_l3List.mono_l : ∀ k, (∀ y0 y1 y2, LeO (spec_l3List.l0 k y0 y1 y2) (spec_l3List.l0 (k + 1) y0 y1 y2))
 | 0 => fun _ _ _ r h => by simp [spec_l3List.l0] at h
 | k + 1 => by
  have ih0 := spec_l3List.mono_l k
  · intro y0 y1 y2
    unfold spec_l3List.l0
    repeat' with_reducible first | exact ih0 _ _ _ | exact LeO.refl _ | exact LeO.none _ | refine LeO.ite ?_ ?_ | refine LeO.bind ?_ (fun _ => ?_)
theorem spec_l3List.mono : ∀ a0 k, LeO (spec_l3List.f k a0) (spec_l3List.f (k + 1) a0) := by
 intro a0 k
 have ih0 := spec_l3List.mono_l k
 unfold spec_l3List.f
 repeat' with_reducible first | exact ih0 _ _ _ | exact LeO.refl _ | exact LeO.none _ | refine LeO.ite ?_ ?_ | refine LeO.bind ?_ (fun _ => ?_)
theorem spec_l3List.calls (k : Nat) (A0 : Option Addr) (c0 : Nat) (l0 : List Int) (r : List Int) (w : World) (hr0 : Kd.C (Kd.int .i64) w A0 l0.length l0) (hc0 : l0.length ≤ c0) (h : spec_l3List.f k l0 = some r) :
 Calls Try.prog 83 #[.slice A0 l0.length c0] w fun e w' => ∃ v0_ : Value, e = .returned (v0_) ∧ Kd.R (Kd.int .u8) 5 w' w.heap.size (fun _ => True) v0_ r ∧ Below w.heap.size w w' := by
 have HR0 := am hr0; have HC0 := am hc0; clear hr0 hc0
 have HB := am (Below.refl w.heap.size w)
 have H : ((spec_l3Put.f (l0.length : Int)).bind fun t206 => (spec_l3List.l0 k l0 t206 0)) = some r := h
 clear h
 obtain ⟨t206, A20, H⟩ := bO H
 replace H : (spec_l3List.l0 k l0 t206 0) = some r := H
 have A2 := am A20; clear A20
 have H' := am H
 clear H
 go_enter Try.func83, Try.ntmps83
 go_wp2_with (first | ((with_reducible refine gC (f := 81) rfl ?_); refine goesL_ (some 7) rfl rfl Try.func81 (by kernel_rfl) rfl #[.int .i64 (l0.length : Int)] rfl pA ?_; (with_reducible refine (spec_l3Put.calls (l0.length : Int) t206 _ A2.out).mono ?_); rintro e w3 ⟨v207, rfl, ho0, hb⟩; refine ⟨_, rfl, ?_⟩; have n_ := t2 (rL ho0 (bs_ pB)) (bz_ pB hb); clear HB; obtain ⟨HO208, HB⟩ := n_; (try clear hb); (try clear ho0)))
 go_loopg [3, 4] k (fun kq v3 v4 w' => ∃ (x3_1 : List Int) (x4_1 : Int), v4 = .int .i64 x4_1 ∧ Aside0 (spec_l3List.l0 kq l0 x3_1 x4_1 = some r) ∧ Aside0 (kq ≤ k) ∧ Aside0 (Kd.R (Kd.int .u8) 5 w' w.heap.size (fun _ => True) v3 x3_1) ∧ Aside0 (Below w.heap.size w w'))
 case atStart => exact ⟨(t206), (0), pF, H', ⟨Nat.le_refl _⟩, ⟨(pR HO208)⟩, ⟨pB⟩⟩
 case round =>
  clear H'
  obtain ⟨x3_1, x4_1, rfl, HA, HK1, HO_3, HB⟩ := hrel
  cases gk with
  | zero => exact absurd HA.out (by simp [spec_l3List.l0])
  | succ k1 =>
   have H := HA.out
   clear HA
   simp only [spec_l3List.l0] at H
   by_cases c4 : x4_1 < (l0.length : Int)
   · rw [if_pos c4] at H
     have c4b0 : decide (x4_1 < (l0.length : Int)) = true := dt c4
     clear c4
     by_cases c5 : 0 ≤ x4_1
     · rw [if_pos c5] at H
       have c5b0 : decide (0 ≤ x4_1) = true := dt c5
       clear c5
       obtain ⟨t210, A60, H⟩ := bO H
       replace H : (if x3_1.length + t210.length < 140737488355328 then (spec_l3List.l0 k1 l0 (x3_1 ++ t210) (wrap64 (x4_1 + 1))) else (none)) = some r := H
       have A6 := am A60; clear A60
       by_cases c7 : x3_1.length + t210.length < 140737488355328
       · rw [if_pos c7] at H
         have LMc7 := am c7; clear c7
         obtain ⟨y213, hy213⟩ : ∃ y_ : List Int, y_ = (x3_1 ++ t210) := ⟨_, rfl⟩
         replace H : (spec_l3List.l0 k1 l0 y213 (wrap64 (x4_1 + 1))) = some r := by first | (rw [hy213]; with_reducible exact H) | (have H2_ := (Option.bind_some _ _).symm.trans H; rw [hy213]; with_reducible exact H2_) | (have H2_ := (Option.bind_some _ _).symm.trans H; with_reducible exact H2_) | with_reducible exact H | (rw [hy213]; exact H) | exact H
         have Ny213 := am hy213; clear hy213
         have H' := am H
         clear H
         have p209 : 0 ≤ (x4_1 : Int) := pD
         have q209 : x4_1 < (l0.length : Int) := pD
         obtain ⟨ad209, e209, hx209_0⟩ := Kd.at_int HR0.out x4_1 p209 q209
         cases e209; replace hx209_0 := cb HB hx209_0; replace p209 := eq_true p209; replace q209 := eq_true q209
         go_wp2_with (first | ((with_reducible refine gC (f := 81) rfl ?_); refine goesL_ (some 19) rfl rfl Try.func81 (by kernel_rfl) rfl #[.int .i64 (rd l0 x4_1)] rfl pA ?_; (with_reducible refine (spec_l3Put.calls (rd l0 x4_1) t210 _ A6.out).mono ?_); rintro e w8 ⟨v211, rfl, ho0, hb⟩; refine ⟨_, rfl, ?_⟩; have n_ := t3 (rE (pR HO_3) (rB ho0) hb) (rL (rW ho0 (Kd.R_lt (pR HO_3))) (bs_ pB)) (bz_ pB hb); clear HO_3 HB; obtain ⟨HO_3, HO212, HB⟩ := n_; (try clear hb); (try clear ho0); obtain ⟨Ao10, co10, eo10⟩ := rS HO212.out; subst eo10) | ((with_reducible refine gB (b := .append) (xs := #[.tmp 14, .tmp 19]) rfl ?_); at_builtin; refine Kd.R_append_rows (Kd.int .u8) (w0 := w) w.heap.size rfl (.tmp 14) (.tmp 19) 71 5 (.int .u8 0) 1 rfl Try.underlying71 info5 rfl (by decide) (by omega) u3 x3_1 t210 _ _ _ (fun k_ => some k_ ≠ (.slice Ao10 t210.length co10 : Value).ownBlock) (fun _ => False) rfl rfl ?aO ?aR (fun _ _ h => h) (fun _ h => h.elim) ?aF ?aB ?aS ?aL ?_; (case aR => exact pC (rr HO212.out).2.2); (case aB => exact pB); (case aF => exact (fun k_ hk => Kd.fresh' (Kd.R_lt (pR HO212)) k_ hk)); (case aO => exact (pT (Kd.R_mono HO_3.out (fun _ hk => hk.2)))); (case aS => exact (bs_ pB)); (case aL => have := LMc7.out; omega); intro v214 w9 ho hb hg hat; rw [← Ny213.out] at ho; have n_ := t3 (Kd.R_after (ok := (fun _ => True)) (pR HO212) hg hat) (hb) (ho); clear HO212 HB HO_3; obtain ⟨HO212, HB, HO215⟩ := n_; clear ho hb hg hat))
         go_roundg k1
         case measure => have := HK1.out; omega
         case rel => exact ⟨(y213), (wrap64 (x4_1 + 1)), pF, H', ⟨by have := HK1.out; omega⟩, ⟨(pT (Kd.R_mono HO215.out (fun _ hk => trivial)))⟩, ⟨pB⟩⟩
       · rw [if_neg c7] at H
         exact absurd H (by simp)
     · rw [if_neg c5] at H
       exact absurd H (by simp)
   · rw [if_neg c4] at H
     have c4b0 : decide (x4_1 < (l0.length : Int)) = false := decide_eq_false c4
     clear c4
     obtain rfl := sj H
     go_wp2
     go_ret
     exact ⟨_, pE, (pR HO_3), pB⟩
end Go.Proofs.Ytjmdfghljlmfmaa.QFnExactHeaderSum
