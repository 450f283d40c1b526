-- written by this session's program (wip/tools/myprint.py)
import Derived.Test.YthjlbpgiaehjnaaDoorQFnCutsx0
import Derived.Test.YthjlbpgiaehjnaaDoorQFnCutsx2
-- squeezed
namespace Go.Proofs.YthjlbpgiaehjnaaDoor.QFnCuts
open Go.RowKit Go.Proofs.YthjlbpgiaehjnaaDoorW.PrintWords Go.Proofs.YthjlbpgiaehjnaaDoorW.PrintLast Go.Proofs.YthjlbpgiaehjnaaDoorW.PrintMore
attribute [local go_sem] max2_int min2_int max_two min_two max_three min_three max_four min_four   -- for this text's walks alone
set_option linter.unusedVariables false
set_option linter.unusedSimpArgs false
set_option maxHeartbeats 8000000
set_option maxRecDepth 100000
def strings_Split.f (a0 : ByteArray) (a1 : ByteArray) : Option (List ByteArray) := if a1.size = 1 ∧ a0.size ≤ 4294967280 then some (Lib.splitB a1 0 (Lib.countB a0 a1) a0) else none
theorem someInt_below {w w' : World} {a : Addr} (h : ∃ m : Int, w.cell? a = some (.int .i64 m)) (hb : Below w.heap.size w w') : ∃ m : Int, w'.cell? a = some (.int .i64 m) := h.imp fun m h => (hb.cell (World.block_lt_of_cell? w a h)).trans h
theorem strings_Split.calls (a0 : ByteArray) (a1 : ByteArray) (r : List ByteArray) (w : World) (h : strings_Split.f a0 a1 = some r) (hV : ∃ m : Int, w.cell? ⟨3, 0, none⟩ = some (.int .i64 m)) :
 Calls Tryd.prog 87 #[.string a0, .string a1] w fun e w' => ∃ v0_ : Value, e = .returned (v0_) ∧ Kd.R Kd.string 9 w' w.heap.size (fun _ => True) v0_ r ∧ Below w.heap.size w w' := by
 unfold strings_Split.f at h
 obtain ⟨m, hm⟩ := hV
 by_cases c : a1.size = 1 ∧ a0.size ≤ 4294967280
 · rw [if_pos c] at h
   obtain rfl := sj h
   have hl := Lib.splitB_all a1 (by omega) 0 _ a0 rfl
   have hle := Lib.countB_le a1 (by omega) a0.size a0 (Nat.le_refl _)
   refine (Any.strings_Split Tryd.laysSP (by kernel_rfl) a0 a1 m w (by omega) hm (by omega)).mono ?_
   rintro e w' ⟨rfl, rfl⟩
   refine ⟨_, rfl, Kd.R_of_own ?_ (fun _ _ => trivial), below_alloc (Below.refl _ _) _⟩
   have ho := World.ownsRow_lit (base := w.heap.size) (e := 9) (size := 1) w ((Lib.splitB a1 0 (Lib.countB a0 a1) a0).map Value.string).toArray (Lib.countB a0 a1 + 1) (Nat.le_refl _) (by unfold maxLen; omega) (by simp [hl])
   rw [hl]
   exact ho
 · rw [if_neg c] at h; cases h
def impl_cutLines.l0 : Nat → List ByteArray → List ByteArray → List ByteArray → Int → Int → Option (List ByteArray × ByteArray)
 | 0, _, _, _, _, _ => none
 | k + 1, x4, x5, x16, x17, x18 => if x18 < x17 then (if 0 ≤ x18 then (if x18 < (x16.length : Int) then (if ((rdOf ByteArray.empty x16 x18).size : Int) > 160 then (if x5.length < 8796093022208 then (impl_cutLines.l0 k x4 (x5 ++ [(⟨#[]⟩ : ByteArray)]) x16 x17 (wrap64 (x18 + 1))) else (none)) else (if x5.length < 8796093022208 then (impl_cutLines.l0 k x4 (x5 ++ [rdOf ByteArray.empty x16 x18]) x16 x17 (wrap64 (x18 + 1))) else (none))) else (none)) else (none)) else (if 0 ≤ (wrap64 ((x4.length : Int) - 1)) then (if (wrap64 ((x4.length : Int) - 1)) < (x4.length : Int) then (if 0 ≤ (mn ((rdOf ByteArray.empty x4 (wrap64 ((x4.length : Int) - 1))).size : Int) 161) then (if (mn ((rdOf ByteArray.empty x4 (wrap64 ((x4.length : Int) - 1))).size : Int) 161) ≤ ((rdOf ByteArray.empty x4 (wrap64 ((x4.length : Int) - 1))).size : Int) then (some (x5, (rdOf ByteArray.empty x4 (wrap64 ((x4.length : Int) - 1))).extract 0 ((mn ((rdOf ByteArray.empty x4 (wrap64 ((x4.length : Int) - 1))).size : Int) 161) : Int).toNat)) else (none)) else (none)) else (none)) else (none))
def impl_cutLines.f (k : Nat) (a0 : ByteArray) : Option (List ByteArray × ByteArray) := (strings_Split.f a0 (⟨#[10]⟩ : ByteArray)).bind fun t147 => (if 0 ≤ (wrap64 ((t147.length : Int) - 1)) then (if (wrap64 ((t147.length : Int) - 1)) ≤ (t147.length : Int) then ((some (t147.take ((wrap64 ((t147.length : Int) - 1)) : Int).toNat : List ByteArray)).bind fun y153 => (impl_cutLines.l0 k t147 (([] : List ByteArray)) y153 (y153.length : Int) 0)) else (none)) else (none))
theorem impl_cutLines.mono_l : ∀ k, (∀ y0 y1 y2 y3 y4, LeO (impl_cutLines.l0 k y0 y1 y2 y3 y4) (impl_cutLines.l0 (k + 1) y0 y1 y2 y3 y4))
 | 0 => fun _ _ _ _ _ r h => by simp [impl_cutLines.l0] at h
 | k + 1 => by
  have ih0 := impl_cutLines.mono_l k
  · intro y0 y1 y2 y3 y4
    unfold impl_cutLines.l0
    repeat' with_reducible first | exact ih0 _ _ _ _ _ | exact LeO.refl _ | exact LeO.none _ | refine LeO.ite ?_ ?_ | refine LeO.bind ?_ (fun _ => ?_)
theorem impl_cutLines.mono : ∀ a0 k, LeO (impl_cutLines.f k a0) (impl_cutLines.f (k + 1) a0) := by
 intro a0 k
 have ih0 := impl_cutLines.mono_l k
 unfold impl_cutLines.f
 repeat' with_reducible first | exact ih0 _ _ _ _ _ | exact LeO.refl _ | exact LeO.none _ | refine LeO.ite ?_ ?_ | refine LeO.bind ?_ (fun _ => ?_)
theorem impl_cutLines.calls (k : Nat) (a0 : ByteArray) (r1 : List ByteArray) (r2 : ByteArray) (w : World) (h : impl_cutLines.f k a0 = some (r1, r2)) (hV : ∃ m : Int, w.cell? ⟨3, 0, none⟩ = some (.int .i64 m)) :
 Calls Tryd.prog 58 #[.string a0] w fun e w' => ∃ v0_ : Value, e = .returned (.tuple #[v0_, .string r2]) ∧ Kd.R Kd.string 9 w' w.heap.size (fun _ => True) v0_ r1 ∧ Below w.heap.size w w' := by
 have HB := am (Below.refl w.heap.size w)
 have H : ((strings_Split.f a0 (⟨#[10]⟩ : ByteArray)).bind fun t147 => (if 0 ≤ (wrap64 ((t147.length : Int) - 1)) then (if (wrap64 ((t147.length : Int) - 1)) ≤ (t147.length : Int) then ((some (t147.take ((wrap64 ((t147.length : Int) - 1)) : Int).toNat : List ByteArray)).bind fun y153 => (impl_cutLines.l0 k t147 (([] : List ByteArray)) y153 (y153.length : Int) 0)) else (none)) else (none))) = some (r1, r2) := h
 clear h
 obtain ⟨t147, A20, H⟩ := bO H
 replace H : (if 0 ≤ (wrap64 ((t147.length : Int) - 1)) then (if (wrap64 ((t147.length : Int) - 1)) ≤ (t147.length : Int) then ((some (t147.take ((wrap64 ((t147.length : Int) - 1)) : Int).toNat : List ByteArray)).bind fun y153 => (impl_cutLines.l0 k t147 (([] : List ByteArray)) y153 (y153.length : Int) 0)) else (none)) else (none)) = some (r1, r2) := H
 have A2 := am A20; clear A20
 obtain ⟨y150, hy150⟩ : ∃ y_ : List ByteArray, y_ = (([] : List ByteArray)) := ⟨_, rfl⟩
 replace H : (if 0 ≤ (wrap64 ((t147.length : Int) - 1)) then (if (wrap64 ((t147.length : Int) - 1)) ≤ (t147.length : Int) then ((some (t147.take ((wrap64 ((t147.length : Int) - 1)) : Int).toNat : List ByteArray)).bind fun y153 => (impl_cutLines.l0 k t147 y150 y153 (y153.length : Int) 0)) else (none)) else (none)) = some (r1, r2) := by first | (rw [hy150]; with_reducible exact H) | (have H2_ := (Option.bind_some _ _).symm.trans H; rw [hy150]; with_reducible exact H2_) | (have H2_ := (Option.bind_some _ _).symm.trans H; with_reducible exact H2_) | with_reducible exact H | (rw [hy150]; exact H) | exact H
 have Ny150 := am hy150; clear hy150
 obtain ⟨ji3, hji3⟩ : ∃ j_ : Int, (wrap64 ((t147.length : Int) - 1)) = j_ := ⟨_, rfl⟩
 replace H : (if 0 ≤ (ji3) then (if (ji3) ≤ (t147.length : Int) then ((some (t147.take ((ji3) : Int).toNat : List ByteArray)).bind fun y153 => (impl_cutLines.l0 k t147 y150 y153 (y153.length : Int) 0)) else (none)) else (none)) = some (r1, r2) := by first | (rw [hji3] at H; exact H) | (simp only [hji3] at H ⊢; exact H)
 (try rw [hji3] at A2)
 have hji3w : (IntKind.i64.wrap ((t147.length : Int) - 1)) = ji3 := (i64_w _).trans hji3
 by_cases c4 : 0 ≤ (ji3)
 · rw [if_pos c4] at H
   have c4b0 := eq_true c4
   have c4b1 : decide (0 ≤ (ji3)) = true := dt c4
   clear c4
   by_cases c5 : (ji3) ≤ (t147.length : Int)
   · rw [if_pos c5] at H
     have c5b0 := eq_true c5
     have c5b1 : decide ((ji3) ≤ (t147.length : Int)) = true := dt c5
     clear c5
     obtain ⟨y153, hy153⟩ : ∃ y_ : List ByteArray, y_ = (t147.take ((ji3) : Int).toNat) := ⟨_, rfl⟩
     replace H : (impl_cutLines.l0 k t147 y150 y153 (y153.length : Int) 0) = some (r1, r2) := by first | (rw [hy153]; with_reducible exact H) | (have H2_ := (Option.bind_some _ _).symm.trans H; rw [hy153]; with_reducible exact H2_) | (have H2_ := (Option.bind_some _ _).symm.trans H; with_reducible exact H2_) | with_reducible exact H | (rw [hy153]; exact H) | exact H
     have Ny153 := am hy153; clear hy153
     have H' := am H
     clear H
     go_enter Tryd.func58, Tryd.ntmps58
     go_wp2_with (first | (go_at_call 87; (with_reducible refine (strings_Split.calls a0 (⟨#[10]⟩ : ByteArray) t147 _ A2.out (someInt_below hV pB)).mono ?_); rintro e w6 ⟨v148, rfl, ho0, hb⟩; have n_ := t2 (rL ho0 (bs_ pB)) (bz_ pB hb); clear HB; obtain ⟨HO149, HB⟩ := n_; (try clear hb); (try clear ho0)) | ((with_reducible refine gate_dst (N := 11) rfl ?_); refine Kd.R_lit Kd.string _ 9 ?hg (N := 11) ?hd (xs := ([] : List ByteArray)) (inner := []) (ok := fun _ => True) (okp := fun _ => True) ?hr ?hp (fun _ hk => hk) trivial (Below.refl _ _) (Nat.le_refl _) (by simp) ?_; (case hd => rfl); (case hg => rfl); (case hr => first | (go_simp; done) | (go_simp; rfl)); (case hp => exact (Reps.none _ _)); intro v151 w7 ho8 hb hg_ hnew_; clear hg_ hnew_; (first | rw [← Ny150.out] at ho8 | (simp only [Int.reduceToNat] at ho8; rw [← Ny150.out] at ho8)); have n_ := t3 (rE (pR HO149) (rB ho8) hb) (rL (rW ho8 (Kd.R_lt (pR HO149))) (bs_ pB)) (bz_ pB hb); clear HO149 HB; obtain ⟨HO149, HO152, HB⟩ := n_; clear hb ho8; obtain ⟨Ao9, co9, eo9⟩ := rS HO149.out; subst eo9; have q10 : ((ji3) : Int) ≤ ((t147.length : Int) : Int) := pD; obtain ⟨i010, hi010, _, hsz10, _⟩ := info_parts info9; have hroom10 : t147.length ≤ co9 := (rr HO149.out).2.1; have hC10 : Kd.C Kd.string _ Ao9 t147.length t147 := (rr HO149.out).2.2; have hcut10 := cut_to (P := Tryd.prog) 22 9 .i64 Tryd.underlying22 hi010 Ao9 t147.length co9 (ji3) (pD) q10 hroom10; have hr10 := Kd.C_take (m := ((ji3) : Int).toNat) hC10 (by omega); have hy10 : y153.length = ((ji3) : Int).toNat := (by rw [Ny153.out, List.length_take]; omega); rw [← Ny153.out] at hr10; rw [← hy10] at hcut10; have HR156 := am hr10; have HC156 := am (show y153.length ≤ co9 from by omega); clear hr10 hC10 hroom10 hi010 hsz10; have KY10 := am hy10; clear hy10; have KL10 := am (show ((ji3) : Int).toNat ≤ t147.length from by omega); replace q10 := eq_true q10))
     repeat (go_quiet (first | (go_at_call 87; (with_reducible refine (strings_Split.calls a0 (⟨#[10]⟩ : ByteArray) t147 _ A2.out (someInt_below hV pB)).mono ?_); rintro e w6 ⟨v148, rfl, ho0, hb⟩; have n_ := t2 (rL ho0 (bs_ pB)) (bz_ pB hb); clear HB; obtain ⟨HO149, HB⟩ := n_; (try clear hb); (try clear ho0)) | ((with_reducible refine gate_dst (N := 11) rfl ?_); refine Kd.R_lit Kd.string _ 9 ?hg (N := 11) ?hd (xs := ([] : List ByteArray)) (inner := []) (ok := fun _ => True) (okp := fun _ => True) ?hr ?hp (fun _ hk => hk) trivial (Below.refl _ _) (Nat.le_refl _) (by simp) ?_; (case hd => rfl); (case hg => rfl); (case hr => first | (go_simp; done) | (go_simp; rfl)); (case hp => exact (Reps.none _ _)); intro v151 w7 ho8 hb hg_ hnew_; clear hg_ hnew_; (first | rw [← Ny150.out] at ho8 | (simp only [Int.reduceToNat] at ho8; rw [← Ny150.out] at ho8)); have n_ := t3 (rE (pR HO149) (rB ho8) hb) (rL (rW ho8 (Kd.R_lt (pR HO149))) (bs_ pB)) (bz_ pB hb); clear HO149 HB; obtain ⟨HO149, HO152, HB⟩ := n_; clear hb ho8; obtain ⟨Ao9, co9, eo9⟩ := rS HO149.out; subst eo9; have q10 : ((ji3) : Int) ≤ ((t147.length : Int) : Int) := pD; obtain ⟨i010, hi010, _, hsz10, _⟩ := info_parts info9; have hroom10 : t147.length ≤ co9 := (rr HO149.out).2.1; have hC10 : Kd.C Kd.string _ Ao9 t147.length t147 := (rr HO149.out).2.2; have hcut10 := cut_to (P := Tryd.prog) 22 9 .i64 Tryd.underlying22 hi010 Ao9 t147.length co9 (ji3) (pD) q10 hroom10; have hr10 := Kd.C_take (m := ((ji3) : Int).toNat) hC10 (by omega); have hy10 : y153.length = ((ji3) : Int).toNat := (by rw [Ny153.out, List.length_take]; omega); rw [← Ny153.out] at hr10; rw [← hy10] at hcut10; have HR156 := am hr10; have HC156 := am (show y153.length ≤ co9 from by omega); clear hr10 hC10 hroom10 hi010 hsz10; have KY10 := am hy10; clear hy10; have KL10 := am (show ((ji3) : Int).toNat ≤ t147.length from by omega); replace q10 := eq_true q10)); try go_wp2_with (first | (go_at_call 87; (with_reducible refine (strings_Split.calls a0 (⟨#[10]⟩ : ByteArray) t147 _ A2.out (someInt_below hV pB)).mono ?_); rintro e w6 ⟨v148, rfl, ho0, hb⟩; have n_ := t2 (rL ho0 (bs_ pB)) (bz_ pB hb); clear HB; obtain ⟨HO149, HB⟩ := n_; (try clear hb); (try clear ho0)) | ((with_reducible refine gate_dst (N := 11) rfl ?_); refine Kd.R_lit Kd.string _ 9 ?hg (N := 11) ?hd (xs := ([] : List ByteArray)) (inner := []) (ok := fun _ => True) (okp := fun _ => True) ?hr ?hp (fun _ hk => hk) trivial (Below.refl _ _) (Nat.le_refl _) (by simp) ?_; (case hd => rfl); (case hg => rfl); (case hr => first | (go_simp; done) | (go_simp; rfl)); (case hp => exact (Reps.none _ _)); intro v151 w7 ho8 hb hg_ hnew_; clear hg_ hnew_; (first | rw [← Ny150.out] at ho8 | (simp only [Int.reduceToNat] at ho8; rw [← Ny150.out] at ho8)); have n_ := t3 (rE (pR HO149) (rB ho8) hb) (rL (rW ho8 (Kd.R_lt (pR HO149))) (bs_ pB)) (bz_ pB hb); clear HO149 HB; obtain ⟨HO149, HO152, HB⟩ := n_; clear hb ho8; obtain ⟨Ao9, co9, eo9⟩ := rS HO149.out; subst eo9; have q10 : ((ji3) : Int) ≤ ((t147.length : Int) : Int) := pD; obtain ⟨i010, hi010, _, hsz10, _⟩ := info_parts info9; have hroom10 : t147.length ≤ co9 := (rr HO149.out).2.1; have hC10 : Kd.C Kd.string _ Ao9 t147.length t147 := (rr HO149.out).2.2; have hcut10 := cut_to (P := Tryd.prog) 22 9 .i64 Tryd.underlying22 hi010 Ao9 t147.length co9 (ji3) (pD) q10 hroom10; have hr10 := Kd.C_take (m := ((ji3) : Int).toNat) hC10 (by omega); have hy10 : y153.length = ((ji3) : Int).toNat := (by rw [Ny153.out, List.length_take]; omega); rw [← Ny153.out] at hr10; rw [← hy10] at hcut10; have HR156 := am hr10; have HC156 := am (show y153.length ≤ co9 from by omega); clear hr10 hC10 hroom10 hi010 hsz10; have KY10 := am hy10; clear hy10; have KL10 := am (show ((ji3) : Int).toNat ≤ t147.length from by omega); replace q10 := eq_true q10)))
     go_loopg [5, 18] k (fun kq v5 v18 w' => ∃ (x5_1 : List ByteArray) (x18_1 : Int), v18 = .int .i64 x18_1 ∧ Aside0 (impl_cutLines.l0 kq t147 x5_1 y153 (y153.length : Int) x18_1 = some (r1, r2)) ∧ Aside0 (kq ≤ k) ∧ Aside0 (Kd.R Kd.string 9 w' w.heap.size (fun k_ => some k_ ≠ (v5 : Value).ownBlock) (.slice Ao9 t147.length co9) t147) ∧ Aside0 (Kd.R Kd.string 9 w' w.heap.size (fun k_ => some k_ ≠ ((.slice Ao9 t147.length co9) : Value).ownBlock) v5 x5_1) ∧ Aside0 (Below w.heap.size w w'))
     case atStart => exact ⟨(y150), (0), pF, H', ⟨Nat.le_refl _⟩, ⟨(pT (Kd.R_mono HO149.out (fun _ hk => hk.2)))⟩, ⟨(pT (Kd.R_mono HO152.out (fun _ hk => hk.2)))⟩, ⟨pB⟩⟩
     case round =>
      clear H'
      (try clear c4); (try clear c4b0); (try clear c4b1); (try clear c5); (try clear c5b0); (try clear c5b1); (try clear q10); (try clear q10)
      obtain ⟨x5_1, x18_1, rfl, HA, HK1, HO_4, HO_5, HB⟩ := hrel
      have HR156 := am (show Kd.C Kd.string _ Ao9 y153.length y153 from by have t_ := Kd.C_take (m := ((ji3) : Int).toNat) (rr HO_4.out).2.2 KL10.out; rw [← Ny153.out] at t_; exact t_)
      cases gk with
      | zero => exact absurd HA.out (by simp [impl_cutLines.l0])
      | succ k1 =>
       have H := HA.out
       clear HA
       simp only [impl_cutLines.l0] at H
       by_cases c11 : x18_1 < (y153.length : Int)
       · rw [if_pos c11] at H
         have c11b0 : decide (x18_1 < (y153.length : Int)) = true := dt c11
         clear c11
         by_cases c12 : 0 ≤ x18_1
         · rw [if_pos c12] at H
           have c12b0 : decide (0 ≤ x18_1) = true := dt c12
           clear c12
           by_cases c13 : x18_1 < (y153.length : Int)
           · rw [if_pos c13] at H
             have c13b0 : decide (x18_1 < (y153.length : Int)) = true := dt c13
             clear c13
             by_cases c14 : ((rdOf ByteArray.empty y153 x18_1).size : Int) > 160
             · rw [if_pos c14] at H
               have c14b0 : decide (160 < ((rdOf ByteArray.empty y153 x18_1).size : Int)) = true := dt c14
               have c14b1 : decide (160 < (rdOf ByteArray.empty y153 x18_1).size) = true := dt (by omega)
               clear c14
               by_cases c15 : x5_1.length < 8796093022208
               · rw [if_pos c15] at H
                 have LMc15 := am c15; clear c15
                 obtain ⟨y158, hy158⟩ : ∃ y_ : List ByteArray, y_ = (x5_1 ++ [(⟨#[]⟩ : ByteArray)]) := ⟨_, rfl⟩
                 replace H : (impl_cutLines.l0 k1 t147 y158 y153 (y153.length : Int) (wrap64 (x18_1 + 1))) = some (r1, r2) := by first | (rw [hy158]; with_reducible exact H) | (have H2_ := (Option.bind_some _ _).symm.trans H; rw [hy158]; with_reducible exact H2_) | (have H2_ := (Option.bind_some _ _).symm.trans H; with_reducible exact H2_) | with_reducible exact H | (rw [hy158]; exact H) | exact H
                 have Ny158 := am hy158; clear hy158
                 have H' := am H
                 clear H
                 have p157 : 0 ≤ (x18_1 : Int) := pD
                 have q157 : x18_1 < (y153.length : Int) := pD
                 obtain ⟨ad157, e157, hx157_0⟩ := Kd.at_string HR156.out x18_1 p157 q157
                 cases e157; replace p157 := eq_true p157; replace q157 := eq_true q157
                 go_wp2_with (first | ((with_reducible refine gB (b := .append) (xs := #[.tmp 25, .tmp 27]) rfl ?_); at_builtin; refine Kd.R_append Kd.string (w0 := w) w.heap.size rfl (.tmp 25) (.tmp 27) 22 9 (.string ⟨#[]⟩) 16 rfl Tryd.underlying22 info9 rfl (by decide) (by omega) u5 x5_1 (⟨#[]⟩ : ByteArray) [.string (⟨#[]⟩ : ByteArray)] (fun k_ => some k_ ≠ (.slice (some ad157) t147.length co9 : Value).ownBlock) (fun _ => False) rfl rfl ?aP (fun _ hk => hk.elim) ?aF ?aO ?aB ?aS ?aL ?_; (case aP => exact rfl); (case aB => exact pB); (case aF => exact (fun k_ hk => Kd.fresh' (Kd.R_lt (pR HO_4)) k_ hk)); (case aO => exact (pR HO_5)); (case aS => exact (bs_ pB)); (case aL => have := LMc15.out; omega); intro v159 w16 ho hb hg hat; rw [← Ny158.out] at ho; have n_ := t3 (Kd.R_after (ok := (fun _ => True)) (pT (Kd.R_mono HO_4.out (fun _ hk => ⟨trivial, hk⟩))) hg hat) (hb) (ho); clear HO_4 HB HO_5; obtain ⟨HO_4, HB, HO160⟩ := n_; clear ho hb hg hat))
                 repeat (go_quiet (first | ((with_reducible refine gB (b := .append) (xs := #[.tmp 25, .tmp 27]) rfl ?_); at_builtin; refine Kd.R_append Kd.string (w0 := w) w.heap.size rfl (.tmp 25) (.tmp 27) 22 9 (.string ⟨#[]⟩) 16 rfl Tryd.underlying22 info9 rfl (by decide) (by omega) u5 x5_1 (⟨#[]⟩ : ByteArray) [.string (⟨#[]⟩ : ByteArray)] (fun k_ => some k_ ≠ (.slice (some ad157) t147.length co9 : Value).ownBlock) (fun _ => False) rfl rfl ?aP (fun _ hk => hk.elim) ?aF ?aO ?aB ?aS ?aL ?_; (case aP => exact rfl); (case aB => exact pB); (case aF => exact (fun k_ hk => Kd.fresh' (Kd.R_lt (pR HO_4)) k_ hk)); (case aO => exact (pR HO_5)); (case aS => exact (bs_ pB)); (case aL => have := LMc15.out; omega); intro v159 w16 ho hb hg hat; rw [← Ny158.out] at ho; have n_ := t3 (Kd.R_after (ok := (fun _ => True)) (pT (Kd.R_mono HO_4.out (fun _ hk => ⟨trivial, hk⟩))) hg hat) (hb) (ho); clear HO_4 HB HO_5; obtain ⟨HO_4, HB, HO160⟩ := n_; clear ho hb hg hat)); try go_wp2_with (first | ((with_reducible refine gB (b := .append) (xs := #[.tmp 25, .tmp 27]) rfl ?_); at_builtin; refine Kd.R_append Kd.string (w0 := w) w.heap.size rfl (.tmp 25) (.tmp 27) 22 9 (.string ⟨#[]⟩) 16 rfl Tryd.underlying22 info9 rfl (by decide) (by omega) u5 x5_1 (⟨#[]⟩ : ByteArray) [.string (⟨#[]⟩ : ByteArray)] (fun k_ => some k_ ≠ (.slice (some ad157) t147.length co9 : Value).ownBlock) (fun _ => False) rfl rfl ?aP (fun _ hk => hk.elim) ?aF ?aO ?aB ?aS ?aL ?_; (case aP => exact rfl); (case aB => exact pB); (case aF => exact (fun k_ hk => Kd.fresh' (Kd.R_lt (pR HO_4)) k_ hk)); (case aO => exact (pR HO_5)); (case aS => exact (bs_ pB)); (case aL => have := LMc15.out; omega); intro v159 w16 ho hb hg hat; rw [← Ny158.out] at ho; have n_ := t3 (Kd.R_after (ok := (fun _ => True)) (pT (Kd.R_mono HO_4.out (fun _ hk => ⟨trivial, hk⟩))) hg hat) (hb) (ho); clear HO_4 HB HO_5; obtain ⟨HO_4, HB, HO160⟩ := n_; clear ho hb hg hat)))
                 go_roundg k1
                 case measure => have := HK1.out; omega
                 case rel => exact ⟨(y158), (wrap64 (x18_1 + 1)), pF, H', ⟨by have := HK1.out; omega⟩, ⟨(pT (Kd.R_mono HO_4.out (fun _ hk => hk.2)))⟩, ⟨(pR HO160)⟩, ⟨pB⟩⟩
               · rw [if_neg c15] at H
                 exact absurd H (by simp)
             · rw [if_neg c14] at H
               have c14b0 : decide (160 < ((rdOf ByteArray.empty y153 x18_1).size : Int)) = false := decide_eq_false c14
               have c14b1 : decide (160 < (rdOf ByteArray.empty y153 x18_1).size) = false := decide_eq_false (by omega)
               clear c14
               by_cases c17 : x5_1.length < 8796093022208
               · rw [if_pos c17] at H
                 have LMc17 := am c17; clear c17
                 obtain ⟨y161, hy161⟩ : ∃ y_ : List ByteArray, y_ = (x5_1 ++ [rdOf ByteArray.empty y153 x18_1]) := ⟨_, rfl⟩
                 replace H : (impl_cutLines.l0 k1 t147 y161 y153 (y153.length : Int) (wrap64 (x18_1 + 1))) = some (r1, r2) := by first | (rw [hy161]; with_reducible exact H) | (have H2_ := (Option.bind_some _ _).symm.trans H; rw [hy161]; with_reducible exact H2_) | (have H2_ := (Option.bind_some _ _).symm.trans H; with_reducible exact H2_) | with_reducible exact H | (rw [hy161]; exact H) | exact H
                 have Ny161 := am hy161; clear hy161
                 have H' := am H
                 clear H
                 have p157 : 0 ≤ (x18_1 : Int) := pD
                 have q157 : x18_1 < (y153.length : Int) := pD
                 obtain ⟨ad157, e157, hx157_0⟩ := Kd.at_string HR156.out x18_1 p157 q157
                 cases e157; replace p157 := eq_true p157; replace q157 := eq_true q157
                 go_wp2_with (first | ((with_reducible refine gB (b := .append) (xs := #[.tmp 25, .tmp 27]) rfl ?_); at_builtin; refine Kd.R_append Kd.string (w0 := w) w.heap.size rfl (.tmp 25) (.tmp 27) 22 9 (.string ⟨#[]⟩) 16 rfl Tryd.underlying22 info9 rfl (by decide) (by omega) u5 x5_1 (rdOf ByteArray.empty y153 x18_1) [.string (rdOf ByteArray.empty y153 x18_1)] (fun k_ => some k_ ≠ (.slice (some ad157) t147.length co9 : Value).ownBlock) (fun _ => False) rfl rfl ?aP (fun _ hk => hk.elim) ?aF ?aO ?aB ?aS ?aL ?_; (case aP => exact rfl); (case aB => exact pB); (case aF => exact (fun k_ hk => Kd.fresh' (Kd.R_lt (pR HO_4)) k_ hk)); (case aO => exact (pR HO_5)); (case aS => exact (bs_ pB)); (case aL => have := LMc17.out; omega); intro v162 w18 ho hb hg hat; rw [← Ny161.out] at ho; have n_ := t3 (Kd.R_after (ok := (fun _ => True)) (pT (Kd.R_mono HO_4.out (fun _ hk => ⟨trivial, hk⟩))) hg hat) (hb) (ho); clear HO_4 HB HO_5; obtain ⟨HO_4, HB, HO163⟩ := n_; clear ho hb hg hat))
                 repeat (go_quiet (first | ((with_reducible refine gB (b := .append) (xs := #[.tmp 25, .tmp 27]) rfl ?_); at_builtin; refine Kd.R_append Kd.string (w0 := w) w.heap.size rfl (.tmp 25) (.tmp 27) 22 9 (.string ⟨#[]⟩) 16 rfl Tryd.underlying22 info9 rfl (by decide) (by omega) u5 x5_1 (rdOf ByteArray.empty y153 x18_1) [.string (rdOf ByteArray.empty y153 x18_1)] (fun k_ => some k_ ≠ (.slice (some ad157) t147.length co9 : Value).ownBlock) (fun _ => False) rfl rfl ?aP (fun _ hk => hk.elim) ?aF ?aO ?aB ?aS ?aL ?_; (case aP => exact rfl); (case aB => exact pB); (case aF => exact (fun k_ hk => Kd.fresh' (Kd.R_lt (pR HO_4)) k_ hk)); (case aO => exact (pR HO_5)); (case aS => exact (bs_ pB)); (case aL => have := LMc17.out; omega); intro v162 w18 ho hb hg hat; rw [← Ny161.out] at ho; have n_ := t3 (Kd.R_after (ok := (fun _ => True)) (pT (Kd.R_mono HO_4.out (fun _ hk => ⟨trivial, hk⟩))) hg hat) (hb) (ho); clear HO_4 HB HO_5; obtain ⟨HO_4, HB, HO163⟩ := n_; clear ho hb hg hat)); try go_wp2_with (first | ((with_reducible refine gB (b := .append) (xs := #[.tmp 25, .tmp 27]) rfl ?_); at_builtin; refine Kd.R_append Kd.string (w0 := w) w.heap.size rfl (.tmp 25) (.tmp 27) 22 9 (.string ⟨#[]⟩) 16 rfl Tryd.underlying22 info9 rfl (by decide) (by omega) u5 x5_1 (rdOf ByteArray.empty y153 x18_1) [.string (rdOf ByteArray.empty y153 x18_1)] (fun k_ => some k_ ≠ (.slice (some ad157) t147.length co9 : Value).ownBlock) (fun _ => False) rfl rfl ?aP (fun _ hk => hk.elim) ?aF ?aO ?aB ?aS ?aL ?_; (case aP => exact rfl); (case aB => exact pB); (case aF => exact (fun k_ hk => Kd.fresh' (Kd.R_lt (pR HO_4)) k_ hk)); (case aO => exact (pR HO_5)); (case aS => exact (bs_ pB)); (case aL => have := LMc17.out; omega); intro v162 w18 ho hb hg hat; rw [← Ny161.out] at ho; have n_ := t3 (Kd.R_after (ok := (fun _ => True)) (pT (Kd.R_mono HO_4.out (fun _ hk => ⟨trivial, hk⟩))) hg hat) (hb) (ho); clear HO_4 HB HO_5; obtain ⟨HO_4, HB, HO163⟩ := n_; clear ho hb hg hat)))
                 go_roundg k1
                 case measure => have := HK1.out; omega
                 case rel => exact ⟨(y161), (wrap64 (x18_1 + 1)), pF, H', ⟨by have := HK1.out; omega⟩, ⟨(pT (Kd.R_mono HO_4.out (fun _ hk => hk.2)))⟩, ⟨(pR HO163)⟩, ⟨pB⟩⟩
               · rw [if_neg c17] at H
                 exact absurd H (by simp)
           · rw [if_neg c13] at H
             exact absurd H (by simp)
         · rw [if_neg c12] at H
           exact absurd H (by simp)
       · rw [if_neg c11] at H
         have c11b0 : decide (x18_1 < (y153.length : Int)) = false := decide_eq_false c11
         clear c11
         obtain ⟨ji19, hji19⟩ : ∃ j_ : Int, (wrap64 ((t147.length : Int) - 1)) = j_ := ⟨_, rfl⟩
         replace H : (if 0 ≤ (ji19) then (if (ji19) < (t147.length : Int) then (if 0 ≤ (mn ((rdOf ByteArray.empty t147 (ji19)).size : Int) 161) then (if (mn ((rdOf ByteArray.empty t147 (ji19)).size : Int) 161) ≤ ((rdOf ByteArray.empty t147 (ji19)).size : Int) then (some (x5_1, (rdOf ByteArray.empty t147 (ji19)).extract 0 ((mn ((rdOf ByteArray.empty t147 (ji19)).size : Int) 161) : Int).toNat)) else (none)) else (none)) else (none)) else (none)) = some (r1, r2) := by first | (rw [hji19] at H; exact H) | (simp only [hji19] at H ⊢; exact H)
         have hji19w : (IntKind.i64.wrap ((t147.length : Int) - 1)) = ji19 := (i64_w _).trans hji19
         obtain rfl : ji19 = ji3 := hji19.symm.trans hji3
         by_cases c20 : 0 ≤ (ji19)
         · rw [if_pos c20] at H
           have c20b0 : decide (0 ≤ (ji19)) = true := dt c20
           clear c20
           by_cases c21 : (ji19) < (t147.length : Int)
           · rw [if_pos c21] at H
             have c21b0 : decide ((ji19) < (t147.length : Int)) = true := dt c21
             clear c21
             obtain ⟨ji22, hji22⟩ : ∃ j_ : Int, (mn ((rdOf ByteArray.empty t147 (ji19)).size : Int) 161) = j_ := ⟨_, rfl⟩
             replace H : (if 0 ≤ (ji22) then (if (ji22) ≤ ((rdOf ByteArray.empty t147 (ji19)).size : Int) then (some (x5_1, (rdOf ByteArray.empty t147 (ji19)).extract 0 ((ji22) : Int).toNat)) else (none)) else (none)) = some (r1, r2) := by first | (rw [hji22] at H; exact H) | (simp only [hji22] at H ⊢; exact H)
             have hji22_ : (if 161 < ((rdOf ByteArray.empty t147 (ji19)).size : Int) then 161 else ((rdOf ByteArray.empty t147 (ji19)).size : Int)) = ji22 := hji22
             by_cases c23 : 0 ≤ (ji22)
             · rw [if_pos c23] at H
               have c23b0 := eq_true c23
               have c23b1 : decide (0 ≤ (ji22)) = true := dt c23
               clear c23
               by_cases c24 : (ji22) ≤ ((rdOf ByteArray.empty t147 (ji19)).size : Int)
               · rw [if_pos c24] at H
                 have c24b0 := eq_true c24
                 have c24b1 : decide ((ji22) ≤ ((rdOf ByteArray.empty t147 (ji19)).size : Int)) = true := dt c24
                 clear c24
                 simp only [Option.some.injEq, Prod.mk.injEq] at H
                 obtain ⟨rfl, rfl⟩ := H
                 have p164 : 0 ≤ ((ji19) : Int) := pD
                 have q164 : (ji19) < (t147.length : Int) := pD
                 obtain ⟨ad164, e164, hx164_0⟩ := Kd.at_string (rr HO_4.out).2.2 (ji19) p164 q164
                 cases e164; replace p164 := eq_true p164; replace q164 := eq_true q164
                 go_wp2
                 repeat (go_quiet (fail); try go_wp2)
                 go_ret2
                 exact ⟨_, by first | rfl | (simp [errW_none, errW_some] <;> rfl) | (simp only [← hji3, ← hji19, ← hji22]; first | rfl | (simp [errW_none, errW_some] <;> rfl)) | (simp [*, errW_none, errW_some] <;> rfl), (pT (Kd.R_mono HO_5.out (fun _ hk => trivial))), pB⟩
               · rw [if_neg c24] at H
                 exact absurd H (by simp)
             · rw [if_neg c23] at H
               exact absurd H (by simp)
           · rw [if_neg c21] at H
             exact absurd H (by simp)
         · rw [if_neg c20] at H
           exact absurd H (by simp)
   · rw [if_neg c5] at H
     exact absurd H (by simp)
 · rw [if_neg c4] at H
   exact absurd H (by simp)
def impl_CutLines.f (k : Nat) (a0 : ByteArray) (l1 : List Int) : Option (Int × List ByteArray × ByteArray) := if (a0.size : Int) > 161 then (some (2, ([] : List ByteArray), (⟨#[]⟩ : ByteArray))) else (if (l1.length : Int) > 1000 then (some (2, ([] : List ByteArray), (⟨#[]⟩ : ByteArray))) else (if a0.size + (strOfNums l1).size ≤ 9223372036854775807 then ((impl_cutLines.f k (a0 ++ (strOfNums l1))).bind fun bt166 => (some (0, bt166.1, bt166.2))) else (none)))
theorem impl_CutLines.mono : ∀ a0 a1 k, LeO (impl_CutLines.f k a0 a1) (impl_CutLines.f (k + 1) a0 a1) := by
 intro a0 a1 k
 unfold impl_CutLines.f
 repeat' with_reducible first | exact impl_cutLines.mono _ _ | exact LeO.refl _ | exact LeO.none _ | refine LeO.ite ?_ ?_ | refine LeO.bind ?_ (fun _ => ?_)
theorem impl_CutLines.calls (k : Nat) (a0 : ByteArray) (A1 : Option Addr) (c1 : Nat) (l1 : List Int) (r1 : Int) (r2 : List ByteArray) (r3 : ByteArray) (w : World) (hr1 : Kd.C (Kd.int .u8) w A1 l1.length l1) (hc1 : l1.length ≤ c1) (h : impl_CutLines.f k a0 l1 = some (r1, r2, r3)) (hV : ∃ m : Int, w.cell? ⟨3, 0, none⟩ = some (.int .i64 m)) :
 Calls Tryd.prog 26 #[.string a0, .slice A1 l1.length c1] w fun e w' => ∃ v1_ : Value, e = .returned (.agg #[.int .i64 r1, v1_, .string r3]) ∧ Kd.R Kd.string 9 w' w.heap.size (fun _ => True) v1_ r2 ∧ Below w.heap.size w w' := by
 have hu53 := Tryd.underlying53
 have HR1 := am hr1; have HC1 := am hc1; clear hr1 hc1
 have HB := am (Below.refl w.heap.size w)
 have H : (if (a0.size : Int) > 161 then (some (2, ([] : List ByteArray), (⟨#[]⟩ : ByteArray))) else (if (l1.length : Int) > 1000 then (some (2, ([] : List ByteArray), (⟨#[]⟩ : ByteArray))) else (if a0.size + (strOfNums l1).size ≤ 9223372036854775807 then ((impl_cutLines.f k (a0 ++ (strOfNums l1))).bind fun bt166 => (some (0, bt166.1, bt166.2))) else (none)))) = some (r1, r2, r3) := h
 clear h
 by_cases c3 : (a0.size : Int) > 161
 · rw [if_pos c3] at H
   have c3b0 : decide (161 < (a0.size : Int)) = true := dt c3
   have c3b1 : decide (161 < a0.size) = true := dt (by omega)
   clear c3
   simp only [Option.some.injEq, Prod.mk.injEq] at H
   obtain ⟨rfl, rfl, rfl⟩ := H
   go_enter Tryd.func26, Tryd.ntmps26
   go_wp2_with (first | ((with_reducible refine gate_dst (N := 4) rfl ?_); (try (refine gate_guard (by rfl) ?_; dsimp only)); refine box_event ?hg (N := 4) ?hd (cs := #[.int .i64 0, .slice none 0 0, .string (⟨#[]⟩ : ByteArray)]) (t := 53) ?hr ?_; (case hd => rfl); (case hg => rfl); (case hr => first | (go_simp; done) | (go_simp; rfl)); intro gb165 hg w4 hbox hb; have n_ := t4 (bz_ pB hb) (hbox) ((by rw [hg]; exact (bs_ pB) : w.heap.size ≤ gb165)) ((by rw [hg]; exact (bs_ pB) : w.heap.size ≤ gb165)); clear HB; obtain ⟨HB, BK165, GW165, GE165⟩ := n_; clear hb hbox hg; have hcz5_0 : w4.cell? ⟨gb165, 0, none⟩ = some (.int .i64 0) := (blk_cell BK165.out 0).trans rfl; have hcz5_1 : w4.cell? ⟨gb165, 1, none⟩ = some (.slice none 0 0) := (blk_cell BK165.out 1).trans rfl; have hcz5_2 : w4.cell? ⟨gb165, 2, none⟩ = some (.string (⟨#[]⟩ : ByteArray)) := (blk_cell BK165.out 2).trans rfl; have hfz5_0 := blk_frozen BK165.out 0; have hfz5_1 := blk_frozen BK165.out 1; have hfz5_2 := blk_frozen BK165.out 2))
   refine bodyPost_ret (results_cell_row rfl _ _ gb165 53 #[.int .i64 2, .slice none 0 0, .string (⟨#[]⟩ : ByteArray)] (0, 0) _ rfl (by (with_reducible repeat (first | refine blk_drewN ?_ _ | refine blk_drew ?_ | refine blk_alloc ?_ _)); refine blk_put (cs := #[.int .i64 2, .slice none 0 0, .string (⟨#[]⟩ : ByteArray)]) ?_ 2 _ rfl; (with_reducible repeat (first | refine blk_drewN ?_ _ | refine blk_drew ?_ | refine blk_alloc ?_ _)); refine blk_put (cs := #[.int .i64 2, .slice none 0 0, .string (⟨#[]⟩ : ByteArray)]) ?_ 1 _ rfl; (with_reducible repeat (first | refine blk_drewN ?_ _ | refine blk_drew ?_ | refine blk_alloc ?_ _)); refine blk_put (cs := #[.int .i64 0, .slice none 0 0, .string (⟨#[]⟩ : ByteArray)]) ?_ 0 _ rfl; (with_reducible repeat (first | refine blk_drewN ?_ _ | refine blk_drew ?_ | refine blk_alloc ?_ _)); exact BK165.out) Tryd.underlying53 rfl (by kernel_rfl)) rfl ?_
   exact ⟨_, pE, by first | exact Kd.R_nil _ _ _ _ _ | exact Kd.N_nil _ _ _ _ _ | exact Kd.V_nil _ _ _ _ _ | exact Kd.Q_nil _ _ _ _ _ | exact Kd.S_nil _ _ _ _ _, pB⟩
 · rw [if_neg c3] at H
   have c3b0 : decide (161 < (a0.size : Int)) = false := decide_eq_false c3
   have c3b1 : decide (161 < a0.size) = false := decide_eq_false (by omega)
   clear c3
   by_cases c6 : (l1.length : Int) > 1000
   · rw [if_pos c6] at H
     have c6b0 : decide (1000 < (l1.length : Int)) = true := dt c6
     have c6b1 : decide (1000 < l1.length) = true := dt (by omega)
     clear c6
     simp only [Option.some.injEq, Prod.mk.injEq] at H
     obtain ⟨rfl, rfl, rfl⟩ := H
     go_enter Tryd.func26, Tryd.ntmps26
     go_wp2_with (first | ((with_reducible refine gate_dst (N := 4) rfl ?_); (try (refine gate_guard (by rfl) ?_; dsimp only)); refine box_event ?hg (N := 4) ?hd (cs := #[.int .i64 0, .slice none 0 0, .string (⟨#[]⟩ : ByteArray)]) (t := 53) ?hr ?_; (case hd => rfl); (case hg => rfl); (case hr => first | (go_simp; done) | (go_simp; rfl)); intro gb165 hg w7 hbox hb; have n_ := t4 (bz_ pB hb) (hbox) ((by rw [hg]; exact (bs_ pB) : w.heap.size ≤ gb165)) ((by rw [hg]; exact (bs_ pB) : w.heap.size ≤ gb165)); clear HB; obtain ⟨HB, BK165, GW165, GE165⟩ := n_; clear hb hbox hg; have hcz8_0 : w7.cell? ⟨gb165, 0, none⟩ = some (.int .i64 0) := (blk_cell BK165.out 0).trans rfl; have hcz8_1 : w7.cell? ⟨gb165, 1, none⟩ = some (.slice none 0 0) := (blk_cell BK165.out 1).trans rfl; have hcz8_2 : w7.cell? ⟨gb165, 2, none⟩ = some (.string (⟨#[]⟩ : ByteArray)) := (blk_cell BK165.out 2).trans rfl; have hfz8_0 := blk_frozen BK165.out 0; have hfz8_1 := blk_frozen BK165.out 1; have hfz8_2 := blk_frozen BK165.out 2))
     refine bodyPost_ret (results_cell_row rfl _ _ gb165 53 #[.int .i64 2, .slice none 0 0, .string (⟨#[]⟩ : ByteArray)] (0, 0) _ rfl (by (with_reducible repeat (first | refine blk_drewN ?_ _ | refine blk_drew ?_ | refine blk_alloc ?_ _)); refine blk_put (cs := #[.int .i64 2, .slice none 0 0, .string (⟨#[]⟩ : ByteArray)]) ?_ 2 _ rfl; (with_reducible repeat (first | refine blk_drewN ?_ _ | refine blk_drew ?_ | refine blk_alloc ?_ _)); refine blk_put (cs := #[.int .i64 2, .slice none 0 0, .string (⟨#[]⟩ : ByteArray)]) ?_ 1 _ rfl; (with_reducible repeat (first | refine blk_drewN ?_ _ | refine blk_drew ?_ | refine blk_alloc ?_ _)); refine blk_put (cs := #[.int .i64 0, .slice none 0 0, .string (⟨#[]⟩ : ByteArray)]) ?_ 0 _ rfl; (with_reducible repeat (first | refine blk_drewN ?_ _ | refine blk_drew ?_ | refine blk_alloc ?_ _)); exact BK165.out) Tryd.underlying53 rfl (by kernel_rfl)) rfl ?_
     exact ⟨_, pE, by first | exact Kd.R_nil _ _ _ _ _ | exact Kd.N_nil _ _ _ _ _ | exact Kd.V_nil _ _ _ _ _ | exact Kd.Q_nil _ _ _ _ _ | exact Kd.S_nil _ _ _ _ _, pB⟩
   · rw [if_neg c6] at H
     have c6b0 : decide (1000 < (l1.length : Int)) = false := decide_eq_false c6
     have c6b1 : decide (1000 < l1.length) = false := decide_eq_false (by omega)
     clear c6
     by_cases c9 : a0.size + (strOfNums l1).size ≤ 9223372036854775807
     · rw [if_pos c9] at H
       have c9b0 := eq_true c9
       have c9b1 : decide (a0.size + (strOfNums l1).size ≤ 9223372036854775807) = true := dt c9
       try have c9b2 : (9223372036854775807 < a0.size + (strOfNums l1).size) = False := eq_false (Nat.not_lt.2 c9)
       obtain ⟨⟨t166, t167⟩, A100, H⟩ := bO H
       replace H : (some (0, t166, t167)) = some (r1, r2, r3) := H
       have A10 := am A100; clear A100
       simp only [Option.some.injEq, Prod.mk.injEq] at H
       obtain ⟨rfl, rfl, rfl⟩ := H
       go_enter Tryd.func26, Tryd.ntmps26
       go_wp2_with (first | ((with_reducible refine gate_dst (N := 4) rfl ?_); (try (refine gate_guard (by rfl) ?_; dsimp only)); refine box_event ?hg (N := 4) ?hd (cs := #[.int .i64 0, .slice none 0 0, .string (⟨#[]⟩ : ByteArray)]) (t := 53) ?hr ?_; (case hd => rfl); (case hg => rfl); (case hr => first | (go_simp; done) | (go_simp; rfl)); intro gb165 hg w11 hbox hb; have n_ := t4 (bz_ pB hb) (hbox) ((by rw [hg]; exact (bs_ pB) : w.heap.size ≤ gb165)) ((by rw [hg]; exact (bs_ pB) : w.heap.size ≤ gb165)); clear HB; obtain ⟨HB, BK165, GW165, GE165⟩ := n_; clear hb hbox hg; have hcv12 := Kd.C_string (P := Tryd.prog) (A := A1) (c := c1) Tryd.underlying48 Tryd.underlying5 Tryd.underlying9 (Kd.C_below HR1.out HB.out)) | ((with_reducible refine gC (f := 58) rfl ?_); refine goesL_ (some 21) rfl rfl Tryd.func58 (by kernel_rfl) rfl #[.string (a0 ++ (strOfNums l1))] rfl pA ?_; (with_reducible refine (impl_cutLines.calls k (a0 ++ (strOfNums l1)) t166 t167 _ A10.out (someInt_below hV pB)).mono ?_); rintro e w13 ⟨v168, rfl, ho0, hb⟩; refine ⟨_, rfl, ?_⟩; have n_ := t3 (rL ho0 (bs_ pB)) (blk_below (g := gb165) (o := .cells #[.int .i64 0, .slice none 0 0, .string (⟨#[]⟩ : ByteArray)] 53 (0, 0)) (pK BK165) hb) (bz_ pB hb); clear BK165 HB; obtain ⟨HO169, BK165, HB⟩ := n_; (try clear hb); (try clear ho0); obtain ⟨Ao14, co14, eo14⟩ := rS HO169.out; subst eo14; have hcz15_0 : w13.cell? ⟨gb165, 0, none⟩ = some (.int .i64 0) := (blk_cell BK165.out 0).trans rfl; have hcz15_1 : w13.cell? ⟨gb165, 1, none⟩ = some (.slice none 0 0) := (blk_cell BK165.out 1).trans rfl; have hcz15_2 : w13.cell? ⟨gb165, 2, none⟩ = some (.string (⟨#[]⟩ : ByteArray)) := (blk_cell BK165.out 2).trans rfl; have hfz15_0 := blk_frozen BK165.out 0; have hfz15_1 := blk_frozen BK165.out 1; have hfz15_2 := blk_frozen BK165.out 2))
       refine bodyPost_ret (results_cell_row rfl _ _ gb165 53 #[.int .i64 0, .slice Ao14 t166.length co14, .string t167] (0, 0) _ rfl (by (with_reducible repeat (first | refine blk_drewN ?_ _ | refine blk_drew ?_ | refine blk_alloc ?_ _)); refine blk_put (cs := #[.int .i64 0, .slice Ao14 t166.length co14, .string (⟨#[]⟩ : ByteArray)]) ?_ 2 _ rfl; (with_reducible repeat (first | refine blk_drewN ?_ _ | refine blk_drew ?_ | refine blk_alloc ?_ _)); refine blk_put (cs := #[.int .i64 0, .slice none 0 0, .string (⟨#[]⟩ : ByteArray)]) ?_ 1 _ rfl; (with_reducible repeat (first | refine blk_drewN ?_ _ | refine blk_drew ?_ | refine blk_alloc ?_ _)); refine blk_put (cs := #[.int .i64 0, .slice none 0 0, .string (⟨#[]⟩ : ByteArray)]) ?_ 0 _ rfl; (with_reducible repeat (first | refine blk_drewN ?_ _ | refine blk_drew ?_ | refine blk_alloc ?_ _)); exact BK165.out) Tryd.underlying53 rfl (by kernel_rfl)) rfl ?_
       exact ⟨_, pE, (pT (Kd.R_mono (Kd.R_far (p := ⟨gb165, 2, none⟩) (Kd.R_far (p := ⟨gb165, 1, none⟩) (Kd.R_far (p := ⟨gb165, 0, none⟩) (Kd.R_types HO169.out BK165.out (by decide)) (fun _ hk => hk.2) (.int .i64 0)) (fun _ hk => hk.2) (.slice Ao14 t166.length co14)) (fun _ hk => hk.2) (.string t167)) (fun _ hk => trivial))), pB⟩
     · rw [if_neg c9] at H
       exact absurd H (by simp)
end Go.Proofs.YthjlbpgiaehjnaaDoor.QFnCuts
