-- written by this session's program (wip/tools/myprint.py)
import Derived.Test.YthjlbpgiaehjnaaDoorQFnCutsx0
import Derived.Test.YthjlbpgiaehjnaaDoorQFnCutsx2
import Derived.Test.YthjlbpgiaehjnaaDoorQFnCutsx4
-- squeezed
namespace Go.Proofs.YthjlbpgiaehjnaaDoor.QFnCuts
open Go.RowKit Go.Proofs.YthjlbpgiaehjnaaDoorW.PrintWords Go.Proofs.YthjlbpgiaehjnaaDoorW.PrintLast Go.Proofs.YthjlbpgiaehjnaaDoorW.PrintMore
attribute [local go_sem] max2_int min2_int max_two min_two max_three min_three max_four min_four   -- for this text's walks alone
set_option linter.unusedVariables false
set_option linter.unusedSimpArgs false
set_option maxHeartbeats 8000000
set_option maxRecDepth 100000
def spec_DrawMapEntry.f (k : Nat) (l0 : List Int) : Option ((List (S81)) × ByteArray) := (spec_l1Source.f l0).bind fun bt266 => ((spec_l8Bent.f k bt266.1 bt266.2).bind fun bt269 => ((some (([(⟨#[105, 100]⟩ : ByteArray), (⟨#[109, 101, 116, 104, 111, 100]⟩ : ByteArray), (⟨#[121]⟩ : ByteArray)] : List ByteArray) : List ByteArray)).bind fun y273 => ((spec_l1Next.f bt266.1 bt269.2 3).bind fun bt276 => (if 0 ≤ bt276.1 then (if bt276.1 < (y273.length : Int) then (some (bt269.1, rdOf ByteArray.empty y273 bt276.1)) else (none)) else (none)))))
theorem spec_DrawMapEntry.mono : ∀ a0 k, LeO (spec_DrawMapEntry.f k a0) (spec_DrawMapEntry.f (k + 1) a0) := by
 intro a0 k
 unfold spec_DrawMapEntry.f
 repeat' with_reducible first | exact spec_l8Bent.mono _ _ _ | exact LeO.refl _ | exact LeO.none _ | refine LeO.ite ?_ ?_ | refine LeO.bind ?_ (fun _ => ?_)
def spec_DrawMapEntry.T2 : Bool × List (List Nat × List Nat) := (true, [([], []), ([0], [0]), ([], []), ([], []), ([3, 1], [3]), ([2, 4], [2, 4]), ([5], [5]), ([1, 4, 0, 1], [1]), ([6, 7, 0, 1, 2, 3, 4, 5, 6, 7], [6])])
def spec_DrawMapEntry.B2 : List Nat := [0, 1, 0, 0, 11, 31, 63, 27, 255]
theorem spec_DrawMapEntry.tab2 : rtab .any (opsOf Tryd.f27 2) = spec_DrawMapEntry.T2 := by kernel_rfl
theorem spec_DrawMapEntry.bits2 : waitsOk spec_DrawMapEntry.T2.2 spec_DrawMapEntry.B2 = true := by kernel_rfl
theorem spec_DrawMapEntry.calls (k : Nat) (A0 : Option Addr) (c0 : Nat) (l0 : List Int) (r1 : List (S81)) (r2 : ByteArray) (w : World) (hr0 : Kd.C (Kd.int .u8) w A0 l0.length l0) (hc0 : l0.length ≤ c0) (h : spec_DrawMapEntry.f k l0 = some (r1, r2)) :
 Calls Tryd.prog 27 #[.slice A0 l0.length c0] w fun e w' => ∃ v0_ : Value, e = .returned (.tuple #[v0_, .string r2]) ∧ Kd.R k81 81 w' w.heap.size (fun _ => True) v0_ r1 ∧ Below w.heap.size w w' := by
 have HR0 := am hr0; have HC0 := am hc0; clear hr0 hc0
 have HB := am (Below.refl w.heap.size w)
 have H : ((spec_l1Source.f l0).bind fun bt266 => ((spec_l8Bent.f k bt266.1 bt266.2).bind fun bt269 => ((some (([(⟨#[105, 100]⟩ : ByteArray), (⟨#[109, 101, 116, 104, 111, 100]⟩ : ByteArray), (⟨#[121]⟩ : ByteArray)] : List ByteArray) : List ByteArray)).bind fun y273 => ((spec_l1Next.f bt266.1 bt269.2 3).bind fun bt276 => (if 0 ≤ bt276.1 then (if bt276.1 < (y273.length : Int) then (some (bt269.1, rdOf ByteArray.empty y273 bt276.1)) else (none)) else (none)))))) = some (r1, r2) := h
 clear h
 obtain ⟨⟨t266, t267⟩, A20, H⟩ := bO H
 replace H : ((spec_l8Bent.f k t266 t267).bind fun bt269 => ((some (([(⟨#[105, 100]⟩ : ByteArray), (⟨#[109, 101, 116, 104, 111, 100]⟩ : ByteArray), (⟨#[121]⟩ : ByteArray)] : List ByteArray) : List ByteArray)).bind fun y273 => ((spec_l1Next.f t266 bt269.2 3).bind fun bt276 => (if 0 ≤ bt276.1 then (if bt276.1 < (y273.length : Int) then (some (bt269.1, rdOf ByteArray.empty y273 bt276.1)) else (none)) else (none))))) = some (r1, r2) := H
 have A2 := am A20; clear A20
 obtain ⟨⟨t269, t272⟩, A30, H⟩ := bO H
 replace H : ((some (([(⟨#[105, 100]⟩ : ByteArray), (⟨#[109, 101, 116, 104, 111, 100]⟩ : ByteArray), (⟨#[121]⟩ : ByteArray)] : List ByteArray) : List ByteArray)).bind fun y273 => ((spec_l1Next.f t266 t272 3).bind fun bt276 => (if 0 ≤ bt276.1 then (if bt276.1 < (y273.length : Int) then (some (t269, rdOf ByteArray.empty y273 bt276.1)) else (none)) else (none)))) = some (r1, r2) := H
 have A3 := am A30; clear A30
 obtain ⟨y273, hy273⟩ : ∃ y_ : List ByteArray, y_ = (([(⟨#[105, 100]⟩ : ByteArray), (⟨#[109, 101, 116, 104, 111, 100]⟩ : ByteArray), (⟨#[121]⟩ : ByteArray)] : List ByteArray)) := ⟨_, rfl⟩
 replace H : ((spec_l1Next.f t266 t272 3).bind fun bt276 => (if 0 ≤ bt276.1 then (if bt276.1 < (y273.length : Int) then (some (t269, rdOf ByteArray.empty y273 bt276.1)) else (none)) else (none))) = some (r1, r2) := by first | (rw [hy273]; with_reducible exact H) | (have H2_ := (Option.bind_some _ _).symm.trans H; rw [hy273]; with_reducible exact H2_) | (have H2_ := (Option.bind_some _ _).symm.trans H; with_reducible exact H2_) | with_reducible exact H | (rw [hy273]; exact H) | exact H
 have Ny273 := am hy273; clear hy273
 obtain ⟨⟨t276, t277⟩, A40, H⟩ := bO H
 replace H : (if 0 ≤ t276 then (if t276 < (y273.length : Int) then (some (t269, rdOf ByteArray.empty y273 t276)) else (none)) else (none)) = some (r1, r2) := H
 have A4 := am A40; clear A40
 by_cases c5 : 0 ≤ t276
 · rw [if_pos c5] at H
   have c5b0 : decide (0 ≤ t276) = true := dt c5
   clear c5
   by_cases c6 : t276 < (y273.length : Int)
   · rw [if_pos c6] at H
     have c6b0 : decide (t276 < (y273.length : Int)) = true := dt c6
     clear c6
     simp only [Option.some.injEq, Prod.mk.injEq] at H
     obtain ⟨rfl, rfl⟩ := H
     go_enter Tryd.func27, Tryd.ntmps27
     try go_wp2_with (first | ((with_reducible refine gC (f := 55) rfl ?_); refine goesL_ (some 6) rfl rfl Tryd.func55 (by kernel_rfl) rfl #[.slice A0 l0.length c0] rfl pA ?_; (with_reducible refine (spec_l1Source.calls _ _ l0 t266 t267 w _ ?side1 ?side2 ?side3 A2.out).mono ?_); (case side1 => repeat (first | (with_reducible first | exact HB.out | apply below_alloc | apply pw_below_drewN | apply below_drew1) | exact HB.out)); (case side2 => exact HR0.out); (case side3 => exact HC0.out); rintro e w7 ⟨g268, rfl, hi, hb, hb2⟩; refine ⟨_, rfl, ?_⟩; have n_ := t2 (hb) (hi); clear HB; obtain ⟨HB, HI268⟩ := n_; (try clear hb); (try clear hb2); (try clear hi)))
     have pi278 : (0 ≤ (t276 : Int)) = True := eq_true (pD)
     have qi278 : (t276 < (y273.length : Int)) = True := eq_true (pD)
     have n_ := t2 (IsS123.drew HI268.out) (below_drew1 HB.out)
     clear HI268 HB; obtain ⟨HI268, HB⟩ := n_
     refine start_ (n := 9) (S := fun w' => True) (ds := []) #[false, false, false, false, false, false, false, false, false] (by kernel_rfl) rfl rfl trivial (fun hHeld => ?_); refine with_tabW spec_DrawMapEntry.tab2 spec_DrawMapEntry.bits2 (fun HT_ HW_ => ?_)
     generalize w7.drew = w8 at HI268 HB hHeld ⊢
     refine rP 0 (some 7) #[true, false, false, false, false, false, false, false, false] (any_of HT_.out (by kernel_rfl)) ?_
     refine rP 3 (some 10) #[true, false, false, true, false, false, false, false, false] (any_of HT_.out (by kernel_rfl)) ?_
     refine inv_at [1, 2, 4, 5, 6, 7, 8] (fun a0_ b a w' => ∃ (v270 : Value) (v274 : Value) (adz_v274 : Addr) (m5_ : Value) (m7_ : Value), a = putSel a0_ b [(1, 8, v270), (2, 9, v274), (4, 11, .int .i64 t276), (5, 12, m5_), (6, 13, .string (rdOf ByteArray.empty y273 t276)), (7, 2, m7_), (8, 3, .string (rdOf ByteArray.empty y273 t276))] ∧ (b 1 = false → IsS123 w w' g268 t266 t267) ∧ (Below w.heap.size w w') ∧ (b 1 = true → Kd.R k81 81 w' w.heap.size (fun _ => True) v270 t269) ∧ (b 1 = true → b 4 = false → IsS123 w w' g268 t266 t272) ∧ (b 2 = true → Kd.R Kd.string 9 w' w.heap.size (fun _ => True) v274 y273) ∧ (b 2 = true → ∃ c_, (v274 : Value) = .slice (some adz_v274) y273.length c_) ∧ (b 4 = true → IsS123 w w' g268 t266 t277) ∧ (b 5 = true → (m5_ : Value) = .pointer (some (adz_v274.add (t276).toNat))) ∧ (b 7 = true → (m7_ : Value) = v270)) HT_.out HW_.out (by kernel_rfl) (by kernel_rfl) ?_ ?_ ?_
     · exact ⟨.bool false, .bool false, ⟨0, 0, none⟩, .bool false, .bool false, by simp only [putSel, Bool.false_eq_true, if_false], fun _ => HI268.out, HB.out, fun h_ => absurd h_ (by decide), fun h_ => absurd h_ (by decide), fun h_ => absurd h_ (by decide), fun h_ => absurd h_ (by decide), fun h_ => absurd h_ (by decide), fun h_ => absurd h_ (by decide), fun h_ => absurd h_ (by decide)⟩
     · skip
       clear HB HI268
       refine steps_cons ?_ ?_
       · rintro b a w' ⟨v270, v274, adz_v274, m5_, m7_, ha, Q_HI268, Q_HB, Q_HO271, Q_HI268_e1, Q_HO275, Q_HA_HO275, Q_HI268_e4, Q_X5_, Q_X7_⟩ hb_ hon hoff
         refine ⟨_, rfl, fun K hK => ?_⟩
         have e7 : a.tmps[7]? = some (.pointer (some ⟨g268, 0, none⟩)) := by rw [ha]; exact (putSel_off rfl).trans rfl
         replace ha := am ha
         have HI268 := am (Q_HI268 hb_)
         have HB := am Q_HB
         refine goes_ Tryd.func59 (by kernel_rfl) rfl #[.pointer (some ⟨g268, 0, none⟩)] (by rfl) rfl rfl (by first | (simp only [List.map_toArray, List.map_cons, List.map_nil, Act.eval, Array.getD_eq_getD_getElem?, Option.getD_some, e7]; done) | (simp only [List.map_toArray, List.map_cons, List.map_nil, Act.eval, Array.getD_eq_getD_getElem?, Option.getD_some, e7]; rfl)) ?_
         with_reducible refine (spec_l8Bent.calls k g268 t266 t267 t269 t272 w _ ?side1 ?side2 A3.out).mono ?_
         (case side1 => repeat (first | (with_reducible first | exact HI268.out | apply IsS123.alloc | apply IsS123.drewN | apply IsS123.drew | apply IsS123.set_1) | exact HI268.out))
         (case side2 => repeat (first | (with_reducible first | exact HB.out | apply below_alloc | apply pw_below_drewN | apply below_drew1 | refine below_set ?_ (IsS123.ge HI268.out)) | exact HB.out))
         rintro e w9 ⟨v270, rfl, ho0, hi, hb, hk⟩
         refine ⟨_, rfl, ?_⟩
         have n0_ := am (rL ho0 (bs_ (by repeat (first | (with_reducible first | exact HB.out | apply below_alloc | apply pw_below_drewN | apply below_drew1 | refine below_set ?_ (IsS123.ge HI268.out)) | exact HB.out))))
         have n1_ := am (hb)
         have n2_ := am (hi)
         have z_HO275 := fun (h0_ : b 2 = true) => (show Kd.R Kd.string 9 w9 w.heap.size (fun _ => True) v274 y273 from by first | exact (Kd.R_mono (Kd.R_keep (IsS123.apart (show IsS123 w _ g268 t266 t267 from by repeat (first | (with_reducible first | exact HI268.out | apply IsS123.alloc | apply IsS123.drewN | apply IsS123.drew | apply IsS123.set_1) | exact HI268.out)) (pT (Q_HO275 h0_)) (by decide)) hk (fun _ h => h.2)) (fun _ h => h.1)) | exact Kd.R_mono (Kd.R_mono (Kd.R_keep (IsS123.apart (show IsS123 w _ g268 t266 t267 from by repeat (first | (with_reducible first | exact HI268.out | apply IsS123.alloc | apply IsS123.drewN | apply IsS123.drew | apply IsS123.set_1) | exact HI268.out)) (pT (Q_HO275 h0_)) (by decide)) hk (fun _ h => h.2)) (fun _ h => h.1)) (fun _ h_ => by first | trivial | exact h_ | exact h_.1))
         clear HB; clear HI268
         have HO271 := n0_
         have HB := n1_
         have HI268 := n2_
         clear n0_ n1_ n2_; (try clear hb); (try clear hb2); (try clear hk); (try clear hi); (try clear ho0)
         refine hK.out _ _ ⟨v270, v274, adz_v274, m5_, m7_, (by rw [ha.out]; exact putSel_upk 0 hb_ rfl rfl rfl), fun h0_ => absurd ((up_self b 1).symm.trans h0_) (by decide), (by repeat (first | (with_reducible first | exact HB.out | apply below_alloc | apply pw_below_drewN | apply below_drew1 | refine below_set ?_ (IsS123.ge HI268.out)) | exact HB.out)), fun _ => (pR HO271), fun _ _ => (by repeat (first | (with_reducible first | exact HI268.out | apply IsS123.alloc | apply IsS123.drewN | apply IsS123.drew | apply IsS123.set_1) | exact HI268.out)), z_HO275, Q_HA_HO275, fun h0_ => absurd ((hoff 4 (by kernel_rfl)).symm.trans h0_) (by decide), fun h0_ => absurd ((hoff 5 (by kernel_rfl)).symm.trans h0_) (by decide), fun h0_ => absurd ((hoff 7 (by kernel_rfl)).symm.trans h0_) (by decide)⟩
       refine steps_cons ?_ ?_
       · rintro b a w' ⟨v270, v274, adz_v274, m5_, m7_, ha, Q_HI268, Q_HB, Q_HO271, Q_HI268_e1, Q_HO275, Q_HA_HO275, Q_HI268_e4, Q_X5_, Q_X7_⟩ hb_ hon hoff
         refine ⟨_, rfl, fun K hK => ?_⟩
         replace ha := am ha
         have HB := am Q_HB
         refine Kd.R_lit_step Kd.string _ 9 ?hg (N := 9) ?hd (xs := ([(⟨#[105, 100]⟩ : ByteArray), (⟨#[109, 101, 116, 104, 111, 100]⟩ : ByteArray), (⟨#[121]⟩ : ByteArray)] : List ByteArray)) (inner := [.string (⟨#[105, 100]⟩ : ByteArray), .string (⟨#[109, 101, 116, 104, 111, 100]⟩ : ByteArray), .string (⟨#[121]⟩ : ByteArray)]) (ok := fun _ => True) (okp := fun _ => True) ?hr ?hp (fun _ hk => hk) trivial (Below.refl _ _) (Nat.le_refl _) (by simp) ?_; (case hd => rfl); (case hg => rfl); (case hr => first | (go_simp; done) | (go_simp; rfl)); (case hp => exact (Reps.one (show Kd.M Kd.string _ _ _ (⟨#[105, 100]⟩ : ByteArray) [.string (⟨#[105, 100]⟩ : ByteArray)] from rfl) (Reps.one (show Kd.M Kd.string _ _ _ (⟨#[109, 101, 116, 104, 111, 100]⟩ : ByteArray) [.string (⟨#[109, 101, 116, 104, 111, 100]⟩ : ByteArray)] from rfl) (Reps.one (show Kd.M Kd.string _ _ _ (⟨#[121]⟩ : ByteArray) [.string (⟨#[121]⟩ : ByteArray)] from rfl) (Reps.none _ _)))))
         intro v274 w9 ho10 hb hg_ hnew_
         clear hg_ hnew_
         (first | rw [← Ny273.out] at ho10 | (simp only [Int.reduceToNat] at ho10; rw [← Ny273.out] at ho10))
         have n0_ := am (rL ho10 (bs_ pB))
         have n2_ := am (bz_ pB hb)
         have z_HI268 := fun (h0_ : b 1 = false) => (show IsS123 w w9 g268 t266 t267 from by first | exact (IsS123.below (by repeat (first | (with_reducible first | exact (Q_HI268 h0_) | apply IsS123.alloc | apply IsS123.drewN | apply IsS123.drew | apply IsS123.set_1) | exact (Q_HI268 h0_))) hb))
         have z_HO271 := fun (h0_ : b 1 = true) => (show Kd.R k81 81 w9 w.heap.size (fun _ => True) v270 t269 from by first | exact (Kd.R_below (pT (Q_HO271 h0_)) hb) | exact Kd.R_mono (Kd.R_below (pT (Q_HO271 h0_)) hb) (fun _ h_ => by first | trivial | exact h_ | exact h_.1))
         have z_HI268_e1 := fun (h0_ : b 1 = true) (h1_ : b 4 = false) => (show IsS123 w w9 g268 t266 t272 from by first | exact (IsS123.below (by repeat (first | (with_reducible first | exact (Q_HI268_e1 h0_ h1_) | apply IsS123.alloc | apply IsS123.drewN | apply IsS123.drew | apply IsS123.set_1) | exact (Q_HI268_e1 h0_ h1_))) hb))
         have z_HI268_e4 := fun (h0_ : b 4 = true) => (show IsS123 w w9 g268 t266 t277 from by first | exact (IsS123.below (by repeat (first | (with_reducible first | exact (Q_HI268_e4 h0_) | apply IsS123.alloc | apply IsS123.drewN | apply IsS123.drew | apply IsS123.set_1) | exact (Q_HI268_e4 h0_))) hb))
         clear HB
         have HO275 := n0_
         have HB := n2_
         clear n0_ n2_; clear hb ho10
         obtain ⟨Ao11, co11, eo11⟩ := rS HO275.out
         subst eo11
         obtain ⟨ado11, fo11, _⟩ := Kd.at_string (rr HO275.out).2.2 0 (by decide) (by rw [Ny273.out]; simp)
         cases fo11
         refine hK.out _ _ ⟨v270, .slice (some ado11) y273.length co11, ado11, m5_, m7_, (by rw [ha.out]; exact putSel_upk 1 hb_ rfl rfl rfl), z_HI268, pB, z_HO271, z_HI268_e1, fun _ => (pR HO275), fun _ => ⟨_, rfl⟩, z_HI268_e4, fun h0_ => absurd ((hoff 5 (by kernel_rfl)).symm.trans h0_) (by decide), Q_X7_⟩
       refine steps_cons ?_ ?_
       · rintro b a w' ⟨v270, v274, adz_v274, m5_, m7_, ha, Q_HI268, Q_HB, Q_HO271, Q_HI268_e1, Q_HO275, Q_HA_HO275, Q_HI268_e4, Q_X5_, Q_X7_⟩ hb_ hon hoff
         refine ⟨_, rfl, fun K hK => ?_⟩
         have e10 : a.tmps[10]? = some (.pointer (some ⟨g268, 0, none⟩)) := by rw [ha]; exact (putSel_off rfl).trans rfl
         replace ha := am ha
         have HB := am Q_HB
         have HO271 := am (Q_HO271 (hon 1 (by kernel_rfl)))
         have HI268 := am (Q_HI268_e1 (hon 1 (by kernel_rfl)) hb_)
         refine goes_ Tryd.func56 (by kernel_rfl) rfl #[.pointer (some ⟨g268, 0, none⟩), .int .i64 3] (by rfl) rfl rfl (by first | (simp only [List.map_toArray, List.map_cons, List.map_nil, Act.eval, Array.getD_eq_getD_getElem?, Option.getD_some, e10]; done) | (simp only [List.map_toArray, List.map_cons, List.map_nil, Act.eval, Array.getD_eq_getD_getElem?, Option.getD_some, e10]; rfl)) ?_
         with_reducible refine (spec_l1Next.calls g268 t266 t272 3 t276 t277 w _ ?side1 ?side2 A4.out).mono ?_
         (case side1 => repeat (first | (with_reducible first | exact HI268.out | apply IsS123.alloc | apply IsS123.drewN | apply IsS123.drew | apply IsS123.set_1) | exact HI268.out))
         (case side2 => repeat (first | (with_reducible first | exact HB.out | apply below_alloc | apply pw_below_drewN | apply below_drew1 | refine below_set ?_ (IsS123.ge HI268.out)) | exact HB.out))
         rintro e w11 ⟨rfl, hi, hb, hk⟩
         refine ⟨_, rfl, ?_⟩
         have n0_ := am (Kd.R_mono (Kd.R_keep (IsS123.apart (show IsS123 w _ g268 t266 t272 from by repeat (first | (with_reducible first | exact HI268.out | apply IsS123.alloc | apply IsS123.drewN | apply IsS123.drew | apply IsS123.set_1) | exact HI268.out)) (pR HO271) (by decide)) hk (fun _ h => h.2)) (fun _ h => h.1))
         have n1_ := am (hb)
         have n2_ := am (hi)
         have z_HO275 := fun (h0_ : b 2 = true) => (show Kd.R Kd.string 9 w11 w.heap.size (fun _ => True) v274 y273 from by first | exact (Kd.R_mono (Kd.R_keep (IsS123.apart (show IsS123 w _ g268 t266 t272 from by repeat (first | (with_reducible first | exact HI268.out | apply IsS123.alloc | apply IsS123.drewN | apply IsS123.drew | apply IsS123.set_1) | exact HI268.out)) (pT (Q_HO275 h0_)) (by decide)) hk (fun _ h => h.2)) (fun _ h => h.1)) | exact Kd.R_mono (Kd.R_mono (Kd.R_keep (IsS123.apart (show IsS123 w _ g268 t266 t272 from by repeat (first | (with_reducible first | exact HI268.out | apply IsS123.alloc | apply IsS123.drewN | apply IsS123.drew | apply IsS123.set_1) | exact HI268.out)) (pT (Q_HO275 h0_)) (by decide)) hk (fun _ h => h.2)) (fun _ h => h.1)) (fun _ h_ => by first | trivial | exact h_ | exact h_.1))
         clear HO271; clear HB; clear HI268
         have HO271 := n0_
         have HB := n1_
         have HI268 := n2_
         clear n0_ n1_ n2_; (try clear hb); (try clear hb2); (try clear hk); (try clear hi)
         refine hK.out _ _ ⟨v270, v274, adz_v274, m5_, m7_, (by rw [ha.out]; exact putSel_upk 2 hb_ rfl rfl rfl), fun h0_ => absurd ((hon 1 (by kernel_rfl)).symm.trans h0_) (by decide), (by repeat (first | (with_reducible first | exact HB.out | apply below_alloc | apply pw_below_drewN | apply below_drew1 | refine below_set ?_ (IsS123.ge HI268.out)) | exact HB.out)), fun _ => (pR HO271), fun _ h1_ => absurd ((up_self b 4).symm.trans h1_) (by decide), z_HO275, Q_HA_HO275, fun _ => (by repeat (first | (with_reducible first | exact HI268.out | apply IsS123.alloc | apply IsS123.drewN | apply IsS123.drew | apply IsS123.set_1) | exact HI268.out)), fun h0_ => absurd ((hoff 5 (by kernel_rfl)).symm.trans h0_) (by decide), fun h0_ => absurd ((hoff 7 (by kernel_rfl)).symm.trans h0_) (by decide)⟩
       refine steps_cons ?_ ?_
       · rintro b a w' ⟨v270, v274, adz_v274, m5_, m7_, ha, Q_HI268, Q_HB, Q_HO271, Q_HI268_e1, Q_HO275, Q_HA_HO275, Q_HI268_e4, Q_X5_, Q_X7_⟩ hb_ hon hoff
         refine ⟨_, rfl, fun K hK => ?_⟩
         have e9 : a.tmps[9]? = some (v274) := by rw [ha]; exact putSel_on (e := (2, 9, v274)) 1 rfl rfl (hon 2 (by kernel_rfl)) rfl
         have e11 : a.tmps[11]? = some (.int .i64 t276) := by rw [ha]; exact putSel_on (e := (4, 11, .int .i64 t276)) 2 rfl rfl (hon 4 (by kernel_rfl)) rfl
         replace ha := am ha
         have HB := am Q_HB
         have HO271 := am (Q_HO271 (hon 1 (by kernel_rfl)))
         have HO275 := am (Q_HO275 (hon 2 (by kernel_rfl)))
         have HA_HO275 := am (Q_HA_HO275 (hon 2 (by kernel_rfl)))
         have HI268 := am (Q_HI268_e4 (hon 4 (by kernel_rfl)))
         obtain ⟨c_, hv_⟩ := HA_HO275.out
         rw [hv_] at e9
         refine value_ (w1 := w') (v := .pointer (some (adz_v274.add (t276).toNat))) (by rfl) rfl ?_ ?_
         · go_simp
           (try simp only [i64_w])
           try rfl
         refine hK.out _ _ ⟨v270, v274, adz_v274, (.pointer (some (adz_v274.add (t276).toNat))), m7_, (by rw [ha.out]; exact putSel_upk 3 hb_ rfl rfl rfl), fun h0_ => absurd ((hon 1 (by kernel_rfl)).symm.trans h0_) (by decide), Q_HB, Q_HO271, fun _ h1_ => absurd ((hon 4 (by kernel_rfl)).symm.trans h1_) (by decide), Q_HO275, Q_HA_HO275, Q_HI268_e4, fun _ => rfl, Q_X7_⟩
       refine steps_cons ?_ ?_
       · rintro b a w' ⟨v270, v274, adz_v274, m5_, m7_, ha, Q_HI268, Q_HB, Q_HO271, Q_HI268_e1, Q_HO275, Q_HA_HO275, Q_HI268_e4, Q_X5_, Q_X7_⟩ hb_ hon hoff
         refine ⟨_, rfl, fun K hK => ?_⟩
         have e12 : a.tmps[12]? = some (m5_) := by rw [ha]; exact putSel_on (e := (5, 12, m5_)) 3 rfl rfl (hon 5 (by kernel_rfl)) rfl
         rw [Q_X5_ (hon 5 (by kernel_rfl))] at e12
         replace ha := am ha
         have HB := am Q_HB
         have HO271 := am (Q_HO271 (hon 1 (by kernel_rfl)))
         have HO275 := am (Q_HO275 (hon 2 (by kernel_rfl)))
         have HA_HO275 := am (Q_HA_HO275 (hon 2 (by kernel_rfl)))
         have HI268 := am (Q_HI268_e4 (hon 4 (by kernel_rfl)))
         obtain ⟨c_, hv_⟩ := HA_HO275.out
         have hF_ := HO275.out
         rw [hv_] at hF_
         obtain ⟨ad_, ea_, hx_⟩ := Kd.at_string (rr hF_).2.2 t276 (of_eq_true pi278) (of_eq_true qi278)
         cases ea_
         refine value_ (w1 := w') (v := .string (rdOf ByteArray.empty y273 t276)) (by rfl) rfl ?_ ?_
         · go_simp
           (try simp only [i64_w])
           try rfl
         refine hK.out _ _ ⟨v270, v274, adz_v274, m5_, m7_, (by rw [ha.out]; exact putSel_upk 4 hb_ rfl rfl rfl), fun h0_ => absurd ((hon 1 (by kernel_rfl)).symm.trans h0_) (by decide), Q_HB, Q_HO271, fun _ h1_ => absurd ((hon 4 (by kernel_rfl)).symm.trans h1_) (by decide), Q_HO275, Q_HA_HO275, Q_HI268_e4, Q_X5_, Q_X7_⟩
       refine steps_cons ?_ ?_
       · rintro b a w' ⟨v270, v274, adz_v274, m5_, m7_, ha, Q_HI268, Q_HB, Q_HO271, Q_HI268_e1, Q_HO275, Q_HA_HO275, Q_HI268_e4, Q_X5_, Q_X7_⟩ hb_ hon hoff
         refine ⟨_, rfl, fun K hK => ?_⟩
         have e8 : a.tmps[8]? = some (v270) := by rw [ha]; exact putSel_on (e := (1, 8, v270)) 0 rfl rfl (hon 1 (by kernel_rfl)) rfl
         replace ha := am ha
         have HB := am Q_HB
         have HO271 := am (Q_HO271 (hon 1 (by kernel_rfl)))
         have HI268 := am (Q_HI268_e4 (hon 4 (by kernel_rfl)))
         refine value_ (w1 := w') (v := v270) (by rfl) rfl ?_ ?_
         · go_simp
           (try simp only [i64_w])
           try rfl
         refine hK.out _ _ ⟨v270, v274, adz_v274, m5_, (v270), (by rw [ha.out]; exact putSel_upk 5 hb_ rfl rfl rfl), fun h0_ => absurd ((hon 1 (by kernel_rfl)).symm.trans h0_) (by decide), Q_HB, Q_HO271, fun _ h1_ => absurd ((hon 4 (by kernel_rfl)).symm.trans h1_) (by decide), Q_HO275, Q_HA_HO275, Q_HI268_e4, Q_X5_, fun _ => rfl⟩
       refine steps_cons ?_ ?_
       · rintro b a w' ⟨v270, v274, adz_v274, m5_, m7_, ha, Q_HI268, Q_HB, Q_HO271, Q_HI268_e1, Q_HO275, Q_HA_HO275, Q_HI268_e4, Q_X5_, Q_X7_⟩ hb_ hon hoff
         refine ⟨_, rfl, fun K hK => ?_⟩
         have e13 : a.tmps[13]? = some (.string (rdOf ByteArray.empty y273 t276)) := by rw [ha]; exact putSel_on (e := (6, 13, .string (rdOf ByteArray.empty y273 t276))) 4 rfl rfl (hon 6 (by kernel_rfl)) rfl
         replace ha := am ha
         have HB := am Q_HB
         have HO271 := am (Q_HO271 (hon 1 (by kernel_rfl)))
         have HO275 := am (Q_HO275 (hon 2 (by kernel_rfl)))
         have HA_HO275 := am (Q_HA_HO275 (hon 2 (by kernel_rfl)))
         have HI268 := am (Q_HI268_e4 (hon 4 (by kernel_rfl)))
         refine value_ (w1 := w') (v := .string (rdOf ByteArray.empty y273 t276)) (by rfl) rfl ?_ ?_
         · go_simp
           (try simp only [i64_w])
           try rfl
         refine hK.out _ _ ⟨v270, v274, adz_v274, m5_, m7_, (by rw [ha.out]; exact putSel_upk 6 hb_ rfl rfl rfl), fun h0_ => absurd ((hon 1 (by kernel_rfl)).symm.trans h0_) (by decide), Q_HB, Q_HO271, fun _ h1_ => absurd ((hon 4 (by kernel_rfl)).symm.trans h1_) (by decide), Q_HO275, Q_HA_HO275, Q_HI268_e4, Q_X5_, Q_X7_⟩
       exact steps_nil
     rintro b a w14 hall ⟨v270, v274, adz_v274, m5_, m7_, ha, Q_HI268, Q_HB, Q_HO271, Q_HI268_e1, Q_HO275, Q_HA_HO275, Q_HI268_e4, Q_X5_, Q_X7_⟩
     clear HB HI268
     have hb1_ := hall 1 (by kernel_rfl)
     have hb2_ := hall 2 (by kernel_rfl)
     have hb4_ := hall 4 (by kernel_rfl)
     have hb5_ := hall 5 (by kernel_rfl)
     have hb6_ := hall 6 (by kernel_rfl)
     have hb7_ := hall 7 (by kernel_rfl)
     have hb8_ := hall 8 (by kernel_rfl)
     subst ha
     obtain rfl := Q_X5_ hb5_
     obtain rfl := Q_X7_ hb7_
     simp only [putSel, hb1_, hb2_, hb4_, hb5_, hb6_, hb7_, hb8_, if_true, Act.put, List.setIfInBounds_toArray, List.set_cons_zero, List.set_cons_succ]
     clear Q_HI268; have HB := am Q_HB; clear Q_HB
     have HO271 := am (Q_HO271 hb1_)
     clear Q_HO271; clear Q_HI268_e1
     have HO275 := am (Q_HO275 hb2_)
     clear Q_HO275
     have HA_HO275 := am (Q_HA_HO275 hb2_)
     clear Q_HA_HO275
     have HI268 := am (Q_HI268_e4 hb4_)
     clear Q_HI268_e4; clear hall hb1_ hb2_ hb4_ hb5_ hb6_ hb7_ hb8_
     obtain ⟨co15, eo15⟩ := HA_HO275.out
     clear HA_HO275
     subst eo15
     try go_wp2
     go_ret2
     exact ⟨_, pE, (pR HO271), by repeat (first | (with_reducible first | exact HB.out | apply below_alloc | apply pw_below_drewN | apply below_drew1 | refine below_set ?_ (IsS123.ge HI268.out)) | exact HB.out)⟩
   · rw [if_neg c6] at H
     exact absurd H (by simp)
 · rw [if_neg c5] at H
   exact absurd H (by simp)
def impl_in.f (a0 : Int) (a1 : Int) (a2 : Int) : Option (Bool) := if a0 ≥ a1 then (some (decide (a0 ≤ a2))) else (some false)
theorem impl_in.calls (a0 : Int) (a1 : Int) (a2 : Int) (r : Bool) (w : World) (h : impl_in.f a0 a1 a2 = some r) :
 Calls Tryd.prog 39 #[.int .i64 a0, .int .i64 a1, .int .i64 a2] w fun e w' => e = .returned (.bool r) ∧ Drawn0 w w' := by
 have H : (if a0 ≥ a1 then (some (decide (a0 ≤ a2))) else (some false)) = some r := h
 clear h
 by_cases c4 : a0 ≥ a1
 · rw [if_pos c4] at H
   have c4b0 : decide (a1 ≤ a0) = true := dt c4
   clear c4
   obtain rfl := sj H
   go_enter Tryd.func39, Tryd.ntmps39
   go_wp2
   go_ret
   exact ⟨by first | rfl | (simp; done) | (simp [*]; done), pW⟩
 · rw [if_neg c4] at H
   have c4b0 : decide (a1 ≤ a0) = false := decide_eq_false c4
   clear c4
   obtain rfl := sj H
   go_enter Tryd.func39, Tryd.ntmps39
   go_wp2
   go_ret
   exact ⟨by first | rfl | (simp; done) | (simp [*]; done), pW⟩
def impl_textOk.l0 : Nat → ByteArray → Int → Int → Option (Bool)
 | 0, _, _, _ => none
 | k + 1, x0, x8, x9 => if x9 < x8 then (if 0 ≤ x9 then (if x9 < (x0.size : Int) then ((impl_in.f (wrap64 (bt x0 x9)) 32 126).bind fun t279 => (if t279 = true then (if (bt x0 x9) = 34 then (some false) else (if (bt x0 x9) = 92 then (some false) else (impl_textOk.l0 k x0 x8 (wrap64 (x9 + 1))))) else (some false))) else (none)) else (none)) else (some true)
def impl_textOk.f (k : Nat) (a0 : ByteArray) : Option (Bool) := if (a0.size : Int) > 40 then (some false) else (impl_textOk.l0 k a0 (a0.size : Int) 0)
theorem impl_textOk.mono_l : ∀ k, (∀ y0 y1 y2, LeO (impl_textOk.l0 k y0 y1 y2) (impl_textOk.l0 (k + 1) y0 y1 y2))
 | 0 => fun _ _ _ r h => by simp [impl_textOk.l0] at h
 | k + 1 => by
  have ih0 := impl_textOk.mono_l k
  · intro y0 y1 y2
    unfold impl_textOk.l0
    repeat' with_reducible first | exact ih0 _ _ _ | exact LeO.refl _ | exact LeO.none _ | refine LeO.ite ?_ ?_ | refine LeO.bind ?_ (fun _ => ?_)
theorem impl_textOk.mono : ∀ a0 k, LeO (impl_textOk.f k a0) (impl_textOk.f (k + 1) a0) := by
 intro a0 k
 have ih0 := impl_textOk.mono_l k
 unfold impl_textOk.f
 repeat' with_reducible first | exact ih0 _ _ _ | exact LeO.refl _ | exact LeO.none _ | refine LeO.ite ?_ ?_ | refine LeO.bind ?_ (fun _ => ?_)
theorem impl_textOk.calls (k : Nat) (a0 : ByteArray) (r : Bool) (w : World) (h : impl_textOk.f k a0 = some r) :
 Calls Tryd.prog 90 #[.string a0] w fun e w' => e = .returned (.bool r) ∧ Drawn0 w w' := by
 have H : (if (a0.size : Int) > 40 then (some false) else (impl_textOk.l0 k a0 (a0.size : Int) 0)) = some r := h
 clear h
 by_cases c2 : (a0.size : Int) > 40
 · rw [if_pos c2] at H
   have c2b0 : decide (40 < (a0.size : Int)) = true := dt c2
   have c2b1 : decide (40 < a0.size) = true := dt (by omega)
   clear c2
   obtain rfl := sj H
   go_enter Tryd.func90, Tryd.ntmps90
   go_wp2
   go_ret
   exact ⟨by first | rfl | (simp; done) | (simp [*]; done), pW⟩
 · rw [if_neg c2] at H
   have c2b0 : decide (40 < (a0.size : Int)) = false := decide_eq_false c2
   have c2b1 : decide (40 < a0.size) = false := decide_eq_false (by omega)
   clear c2
   have H' := am H
   clear H
   go_enter Tryd.func90, Tryd.ntmps90
   go_wp2
   go_loopg [9] k (fun kq v9 w' => ∃ (x9_1 : Int), v9 = .int .i64 x9_1 ∧ Aside0 (impl_textOk.l0 kq a0 (a0.size : Int) x9_1 = some r) ∧ Aside0 (kq ≤ k) ∧ Drawn0 w w')
   case atStart => exact ⟨(0), pF, H', ⟨Nat.le_refl _⟩, pW⟩
   case round =>
    clear H'
    (try clear c2); (try clear c2b0); (try clear c2b1)
    obtain ⟨x9_1, rfl, HA, HK1, ⟨m1, rfl⟩⟩ := hrel
    cases gk with
    | zero => exact absurd HA.out (by simp [impl_textOk.l0])
    | succ k1 =>
     have H := HA.out
     clear HA
     simp only [impl_textOk.l0] at H
     by_cases c3 : x9_1 < (a0.size : Int)
     · rw [if_pos c3] at H
       have c3b0 : decide (x9_1 < (a0.size : Int)) = true := dt c3
       clear c3
       by_cases c4 : 0 ≤ x9_1
       · rw [if_pos c4] at H
         have c4b0 : decide (0 ≤ x9_1) = true := dt c4
         clear c4
         by_cases c5 : x9_1 < (a0.size : Int)
         · rw [if_pos c5] at H
           have c5b0 : decide (x9_1 < (a0.size : Int)) = true := dt c5
           clear c5
           obtain ⟨t279, A70, H⟩ := bO H
           replace H : (if t279 = true then (if (bt a0 x9_1) = 34 then (some false) else (if (bt a0 x9_1) = 92 then (some false) else (impl_textOk.l0 k1 a0 (a0.size : Int) (wrap64 (x9_1 + 1))))) else (some false)) = some r := H
           have A7 := am A70; clear A70
           by_cases c8 : t279 = true
           · subst c8
             have H1 : (if (bt a0 x9_1) = 34 then (some false) else (if (bt a0 x9_1) = 92 then (some false) else (impl_textOk.l0 k1 a0 (a0.size : Int) (wrap64 (x9_1 + 1))))) = some r := by rw [if_pos rfl] at H; exact H
             clear H; have H := H1; clear H1
             by_cases c10 : (bt a0 x9_1) = 34
             · rw [if_pos c10] at H
               have c10b0 : ((bt a0 x9_1) == 34) = true := beq_iff_eq.mpr c10
               have c10b1 : ((bt a0 x9_1) != 34) = false := bne_eq_false_iff_eq.mpr c10
               clear c10
               obtain rfl := sj H
               have p6 : 0 ≤ (x9_1 : Int) := pD
               have q6 : x9_1 < (a0.size : Int) := pD
               have hx6 := bt_at a0 x9_1
               replace p6 := eq_true p6; replace q6 := eq_true q6
               go_wp2_with (first | ((with_reducible refine gC (f := 39) rfl ?_); refine goesL_ (some 16) rfl rfl Tryd.func39 (by kernel_rfl) rfl #[.int .i64 (wrap64 (bt a0 x9_1)), .int .i64 32, .int .i64 126] rfl pA ?_; (with_reducible refine (impl_in.calls (wrap64 (bt a0 x9_1)) 32 126 true _ A7.out).mono ?_); rintro e w' ⟨rfl, ⟨nd, rfl⟩⟩; refine ⟨_, rfl, ?_⟩; have p9 : 0 ≤ (x9_1 : Int) := pD; have q9 : x9_1 < (a0.size : Int) := pD; have hx9 := bt_at a0 x9_1; replace p9 := eq_true p9; replace q9 := eq_true q9))
               go_ret
               exact ⟨by first | rfl | (simp; done) | (simp [*]; done), pW⟩
             · rw [if_neg c10] at H
               have c10b0 : ((bt a0 x9_1) == 34) = false := beq_eq_false_iff_ne.mpr c10
               have c10b1 : ((bt a0 x9_1) != 34) = true := bne_iff_ne.mpr c10
               by_cases c12 : (bt a0 x9_1) = 92
               · rw [if_pos c12] at H
                 have c12b0 : ((bt a0 x9_1) == 92) = true := beq_iff_eq.mpr c12
                 have c12b1 : ((bt a0 x9_1) != 92) = false := bne_eq_false_iff_eq.mpr c12
                 clear c12
                 obtain rfl := sj H
                 have p6 : 0 ≤ (x9_1 : Int) := pD
                 have q6 : x9_1 < (a0.size : Int) := pD
                 have hx6 := bt_at a0 x9_1
                 replace p6 := eq_true p6; replace q6 := eq_true q6
                 go_wp2_with (first | ((with_reducible refine gC (f := 39) rfl ?_); refine goesL_ (some 16) rfl rfl Tryd.func39 (by kernel_rfl) rfl #[.int .i64 (wrap64 (bt a0 x9_1)), .int .i64 32, .int .i64 126] rfl pA ?_; (with_reducible refine (impl_in.calls (wrap64 (bt a0 x9_1)) 32 126 true _ A7.out).mono ?_); rintro e w' ⟨rfl, ⟨nd, rfl⟩⟩; refine ⟨_, rfl, ?_⟩; have p9 : 0 ≤ (x9_1 : Int) := pD; have q9 : x9_1 < (a0.size : Int) := pD; have hx9 := bt_at a0 x9_1; replace p9 := eq_true p9; replace q9 := eq_true q9; have p11 : 0 ≤ (x9_1 : Int) := pD; have q11 : x9_1 < (a0.size : Int) := pD; have hx11 := bt_at a0 x9_1; replace p11 := eq_true p11; replace q11 := eq_true q11))
                 go_ret
                 exact ⟨by first | rfl | (simp; done) | (simp [*]; done), pW⟩
               · rw [if_neg c12] at H
                 have c12b0 : ((bt a0 x9_1) == 92) = false := beq_eq_false_iff_ne.mpr c12
                 have c12b1 : ((bt a0 x9_1) != 92) = true := bne_iff_ne.mpr c12
                 have H' := am H
                 clear H
                 have p6 : 0 ≤ (x9_1 : Int) := pD
                 have q6 : x9_1 < (a0.size : Int) := pD
                 have hx6 := bt_at a0 x9_1
                 replace p6 := eq_true p6; replace q6 := eq_true q6
                 go_wp2_with (first | ((with_reducible refine gC (f := 39) rfl ?_); refine goesL_ (some 16) rfl rfl Tryd.func39 (by kernel_rfl) rfl #[.int .i64 (wrap64 (bt a0 x9_1)), .int .i64 32, .int .i64 126] rfl pA ?_; (with_reducible refine (impl_in.calls (wrap64 (bt a0 x9_1)) 32 126 true _ A7.out).mono ?_); rintro e w' ⟨rfl, ⟨nd, rfl⟩⟩; refine ⟨_, rfl, ?_⟩; have p9 : 0 ≤ (x9_1 : Int) := pD; have q9 : x9_1 < (a0.size : Int) := pD; have hx9 := bt_at a0 x9_1; replace p9 := eq_true p9; replace q9 := eq_true q9; have p11 : 0 ≤ (x9_1 : Int) := pD; have q11 : x9_1 < (a0.size : Int) := pD; have hx11 := bt_at a0 x9_1; replace p11 := eq_true p11; replace q11 := eq_true q11))
                 go_roundg k1
                 case measure => have := HK1.out; omega
                 case rel => exact ⟨(wrap64 (x9_1 + 1)), pF, H', ⟨by have := HK1.out; omega⟩, pW⟩
           · replace c8 := Bool.eq_false_iff.mpr c8
             subst c8
             have H1 : (some false) = some r := by rw [if_neg (show ¬ (false = true) by decide)] at H; exact H
             clear H; have H := H1; clear H1
             obtain rfl := sj H
             have p6 : 0 ≤ (x9_1 : Int) := pD
             have q6 : x9_1 < (a0.size : Int) := pD
             have hx6 := bt_at a0 x9_1
             replace p6 := eq_true p6; replace q6 := eq_true q6
             go_wp2_with (first | ((with_reducible refine gC (f := 39) rfl ?_); refine goesL_ (some 16) rfl rfl Tryd.func39 (by kernel_rfl) rfl #[.int .i64 (wrap64 (bt a0 x9_1)), .int .i64 32, .int .i64 126] rfl pA ?_; (with_reducible refine (impl_in.calls (wrap64 (bt a0 x9_1)) 32 126 false _ A7.out).mono ?_); rintro e w' ⟨rfl, ⟨nd, rfl⟩⟩; refine ⟨_, rfl, ?_⟩))
             go_ret
             exact ⟨by first | rfl | (simp; done) | (simp [*]; done), pW⟩
         · rw [if_neg c5] at H
           exact absurd H (by simp)
       · rw [if_neg c4] at H
         exact absurd H (by simp)
     · rw [if_neg c3] at H
       have c3b0 : decide (x9_1 < (a0.size : Int)) = false := decide_eq_false c3
       clear c3
       obtain rfl := sj H
       go_wp2
       go_ret
       exact ⟨by first | rfl | (simp; done) | (simp [*]; done), pW⟩
end Go.Proofs.YthjlbpgiaehjnaaDoor.QFnCuts
