-- written by this session's program (wip/tools/myprint.py)
import Derived.Test.YthjlbpgiaehjnaaDoorQFnExactReplyTextx0
import Derived.Test.YthjlbpgiaehjnaaDoorQFnExactReplyTextx5
import Derived.Test.YthjlbpgiaehjnaaDoorQFnExactReplyTextx6
namespace Go.Proofs.YthjlbpgiaehjnaaDoor.QFnExactReplyText
open Go.RowKit Go.Proofs.YthjlbpgiaehjnaaDoorW.PrintWords Go.Proofs.YthjlbpgiaehjnaaDoorW.PrintLast Go.Proofs.YthjlbpgiaehjnaaDoorW.PrintMore
attribute [local go_sem] max2_int min2_int max_two min_two max_three min_three max_four min_four   -- for this text's walks alone
set_option linter.unusedVariables false
set_option linter.unusedSimpArgs false

/-! ### impl_replyText: function 45 -/
def impl_replyText.j0 : Nat → Int → Bool → Int → Int → ByteArray → Option (ByteArray)
  | 0, _, _, _, _, _ => none
  | k + 1, x0, x1, x187000, x187001, x187002 => (impl_textVal.f (⟨#[105, 100]⟩ : ByteArray)).bind fun bt187 => ((impl_numVal.f x0).bind fun bt190 => ((impl_textVal.f (⟨#[114, 101, 115, 117, 108, 116]⟩ : ByteArray)).bind fun bt196 => ((impl_flag.f x1).bind fun t199 => ((impl_textVal.f (⟨#[101, 114, 114, 111, 114]⟩ : ByteArray)).bind fun bt203 => ((impl_message.f k (([(([(⟨bt187.1, bt187.2.1, bt187.2.2⟩ : S81), (⟨bt190.1, bt190.2.1, bt190.2.2⟩ : S81)] : List (S81))), (([(⟨bt196.1, bt196.2.1, bt196.2.2⟩ : S81), (⟨2, t199, (⟨#[]⟩ : ByteArray)⟩ : S81)] : List (S81))), (([(⟨bt203.1, bt203.2.1, bt203.2.2⟩ : S81), (⟨x187000, x187001, x187002⟩ : S81)] : List (S81)))] : List (List (S81))))).bind fun t212 => ((impl_printed.f t212).bind fun t215 => (some t215)))))))
def impl_replyText.f (k : Nat) (a0 : Int) (a1 : Bool) (a2 : Int) : Option (ByteArray) := (impl_numVal.f a2).bind fun bt183 => (if a2 = 0 then (impl_replyText.j0 k a0 a1 1 0 (⟨#[]⟩ : ByteArray)) else (impl_replyText.j0 k a0 a1 bt183.1 bt183.2.1 bt183.2.2))
theorem impl_replyText.mono_l : ∀ k, (∀ y0 y1 y2 y3 y4, LeO (impl_replyText.j0 k y0 y1 y2 y3 y4) (impl_replyText.j0 (k + 1) y0 y1 y2 y3 y4))
  | 0 => fun _ _ _ _ _ r h => by simp [impl_replyText.j0] at h
  | k + 1 => by
    have ih0 := impl_replyText.mono_l k
    · intro y0 y1 y2 y3 y4
      unfold impl_replyText.j0
      repeat' first
      | (with_reducible exact ih0 _ _ _ _ _)
      | (with_reducible exact impl_message.mono _ _)
      | (with_reducible exact LeO.refl _)
      | (with_reducible exact LeO.none _)
      | (with_reducible refine LeO.ite ?_ ?_)
      | (with_reducible refine LeO.bind ?_ (fun _ => ?_))
      | exact ih0 _ _ _ _ _
      | exact impl_message.mono _ _
      | exact LeO.none _
      | refine LeO.ite ?_ ?_
      | refine LeO.bind ?_ (fun _ => ?_)
theorem impl_replyText.mono : ∀ a0 a1 a2 k, LeO (impl_replyText.f k a0 a1 a2) (impl_replyText.f (k + 1) a0 a1 a2) := by
  intro a0 a1 a2 k
  have ih0 := impl_replyText.mono_l k
  unfold impl_replyText.f
  repeat' first
      | (with_reducible exact ih0 _ _ _ _ _)
      | (with_reducible exact impl_message.mono _ _)
      | (with_reducible exact LeO.refl _)
      | (with_reducible exact LeO.none _)
      | (with_reducible refine LeO.ite ?_ ?_)
      | (with_reducible refine LeO.bind ?_ (fun _ => ?_))
      | exact ih0 _ _ _ _ _
      | exact impl_message.mono _ _
      | exact LeO.none _
      | refine LeO.ite ?_ ?_
      | refine LeO.bind ?_ (fun _ => ?_)
def impl_replyText.T4 : Bool × List (List Nat × List Nat) := (true, [([], []), ([], []), ([1, 0], [1]), ([0, 2], [0, 2]), ([2], []), ([], []), ([5, 4], [5]), ([6], [6]), ([4, 7], [4, 7]), ([6], []), ([], []), ([9, 10], [9, 10]), ([3, 8, 11], [3, 8, 11]), ([12, 9], [12]), ([13, 13], [13]), ([14, 14, 0, 1, 2, 3, 4, 5, 6, 7, 8, 9, 10, 11, 12, 13, 14], [14])])
def impl_replyText.B4 : List Nat := [0, 0, 3, 7, 7, 0, 55, 119, 247, 119, 0, 1655, 4095, 8191, 16383, 32767]
theorem impl_replyText.tab4 : rtab .any (opsOf Tryd.f45 4) = impl_replyText.T4 := by kernel_rfl
theorem impl_replyText.bits4 : waitsOk impl_replyText.T4.2 impl_replyText.B4 = true := by kernel_rfl
set_option maxHeartbeats 8000000 in
set_option maxRecDepth 100000 in
theorem impl_replyText.calls (k : Nat) (a0 : Int) (a1 : Bool) (a2 : Int) (r : ByteArray) (w : World) (h : impl_replyText.f k a0 a1 a2 = some r) (hV : HFmt.Vars w) :
    Calls Tryd.prog 45 #[.int .i64 a0, .bool a1, .int .i64 a2] w fun e w' => e = .returned (.string r) ∧ Below w.heap.size w w' := by
  have hu81 := Tryd.underlying81
  have HB := Aside0.mk (Below.refl w.heap.size w)
  have H : ((impl_numVal.f a2).bind fun bt183 => (if a2 = 0 then (impl_replyText.j0 k a0 a1 1 0 (⟨#[]⟩ : ByteArray)) else (impl_replyText.j0 k a0 a1 bt183.1 bt183.2.1 bt183.2.2))) = some r := h
  clear h
  replace H := Option.bind_eq_some_iff.mp H
  obtain ⟨⟨t183, t184, t185⟩, A40, H⟩ := H
  replace H : (if a2 = 0 then (impl_replyText.j0 k a0 a1 1 0 (⟨#[]⟩ : ByteArray)) else (impl_replyText.j0 k a0 a1 t183 t184 t185)) = some r := H
  have A4 := Aside0.mk A40
  clear A40
  have HC5 := Aside0.mk H
  clear H
  go_enter Tryd.func45, Tryd.ntmps45
  go_upto_if 11 with (first | ((with_reducible refine gate_callee (f := 73) rfl ?_); refine goesL_ (some 9) rfl rfl Tryd.func73 (by kernel_rfl) rfl #[.int .i64 a2] rfl (by (try simp only [List.map_toArray, List.map_cons, List.map_nil]); first | done | rfl | (simp only [List.length_drop, List.length_take]; rfl)) ?_; (with_reducible refine (impl_numVal.calls a2 t183 t184 t185 _ A4.out).mono ?_); rintro e w6 ⟨rfl, hb⟩; refine ⟨_, rfl, ?_⟩; have n0_ := Aside0.mk (below_step (by repeat (first | (with_reducible first | exact HB.out | apply below_alloc | apply pw_below_drewN | apply below_drew1) | exact HB.out)) hb); clear HB; have HB := n0_; clear n0_; (try clear hb); (try clear hb2); (try clear hk); (try clear hi)) | ((with_reducible refine gate_dst (N := 7) rfl ?_); refine box_event ?hg (N := 7) ?hd (cs := #[.int .i64 0, .int .i64 0, .string (⟨#[]⟩ : ByteArray)]) (t := 81) ?hr ?_; (case hd => rfl); (case hg => rfl); (case hr => first | (go_simp; done) | (go_simp; rfl)); intro gb186 hg w7 hbox hb; have n0_ := Aside0.mk (below_step (by repeat (first | (with_reducible first | exact HB.out | apply below_alloc | apply pw_below_drewN | apply below_drew1) | exact HB.out)) hb); have n1_ := Aside0.mk (hbox); have n2_ := Aside0.mk ((by rw [hg]; exact (below_size (by repeat (first | (with_reducible first | exact HB.out | apply below_alloc | apply pw_below_drewN | apply below_drew1) | exact HB.out))) : w.heap.size ≤ gb186)); have n3_ := Aside0.mk ((by rw [hg]; exact (below_size (by repeat (first | (with_reducible first | exact HB.out | apply below_alloc | apply pw_below_drewN | apply below_drew1) | exact HB.out))) : w.heap.size ≤ gb186)); clear HB; have HB := n0_; have BK186 := n1_; have GW186 := n2_; have GE186 := n3_; clear n0_ n1_ n2_ n3_; clear hb hbox hg; have hcz8_0 : w7.cell? ⟨gb186, 0, none⟩ = some (.int .i64 0) := (blk_cell BK186.out 0).trans rfl; have hcz8_1 : w7.cell? ⟨gb186, 1, none⟩ = some (.int .i64 0) := (blk_cell BK186.out 1).trans rfl; have hcz8_2 : w7.cell? ⟨gb186, 2, none⟩ = some (.string (⟨#[]⟩ : ByteArray)) := (blk_cell BK186.out 2).trans rfl; have hfz8_0 := blk_frozen BK186.out 0; have hfz8_1 := blk_frozen BK186.out 1; have hfz8_2 := blk_frozen BK186.out 2))
  (try simp only [Act.put, List.setIfInBounds_toArray, List.set_cons_zero, List.set_cons_succ])
  go_cut [] (fun wc => ∃ (kq : Nat) (x187000_4 : Int) (x187001_4 : Int) (x187002_4 : ByteArray), Aside0 (impl_replyText.j0 kq a0 a1 x187000_4 x187001_4 x187002_4 = some r) ∧ Aside0 (kq ≤ k) ∧ Aside0 (wc.heap[gb186]? = some (.cells #[.int .i64 x187000_4, .int .i64 x187001_4, .string x187002_4] 81 (0, 0))) ∧ Aside0 (Below w.heap.size w wc))
  case first =>
    have H := HC5.out
    clear HC5
    by_cases c9 : a2 = 0
    · rw [if_pos c9] at H
      have c9b0 : (a2 == 0) = true := beq_iff_eq.mpr c9
      have c9b1 : (a2 != 0) = false := bne_eq_false_iff_eq.mpr c9
      clear c9
      (first | rw [c9b0] | (simp only [i64_w, i32_w]; rw [c9b0]) | skip)
      have H' := Aside0.mk H
      clear H
      have hcz10_0 : w7.cell? ⟨gb186, 0, none⟩ = some (.int .i64 0) := (blk_cell BK186.out 0).trans rfl
      have hcz10_1 : w7.cell? ⟨gb186, 1, none⟩ = some (.int .i64 0) := (blk_cell BK186.out 1).trans rfl
      have hcz10_2 : w7.cell? ⟨gb186, 2, none⟩ = some (.string (⟨#[]⟩ : ByteArray)) := (blk_cell BK186.out 2).trans rfl
      have hfz10_0 := blk_frozen BK186.out 0
      have hfz10_1 := blk_frozen BK186.out 1
      have hfz10_2 := blk_frozen BK186.out 2
      go_wp2
      go_meet
      case rel => exact ⟨_, (1), (0), ((⟨#[]⟩ : ByteArray)), H', ⟨by first | omega | exact Nat.le_refl _⟩, ⟨by (with_reducible repeat (first | refine blk_drewN ?_ _ | refine blk_drew ?_ | refine blk_alloc ?_ _)); refine blk_put (cs := #[.int .i64 1, .int .i64 0, .string t185]) ?_ 2 _ rfl; (with_reducible repeat (first | refine blk_drewN ?_ _ | refine blk_drew ?_ | refine blk_alloc ?_ _)); refine blk_put (cs := #[.int .i64 1, .int .i64 t184, .string t185]) ?_ 1 _ rfl; (with_reducible repeat (first | refine blk_drewN ?_ _ | refine blk_drew ?_ | refine blk_alloc ?_ _)); refine blk_put (cs := #[.int .i64 t183, .int .i64 t184, .string t185]) ?_ 0 _ rfl; (with_reducible repeat (first | refine blk_drewN ?_ _ | refine blk_drew ?_ | refine blk_alloc ?_ _)); refine blk_put (cs := #[.int .i64 t183, .int .i64 t184, .string (⟨#[]⟩ : ByteArray)]) ?_ 2 _ rfl; (with_reducible repeat (first | refine blk_drewN ?_ _ | refine blk_drew ?_ | refine blk_alloc ?_ _)); refine blk_put (cs := #[.int .i64 t183, .int .i64 0, .string (⟨#[]⟩ : ByteArray)]) ?_ 1 _ rfl; (with_reducible repeat (first | refine blk_drewN ?_ _ | refine blk_drew ?_ | refine blk_alloc ?_ _)); refine blk_put (cs := #[.int .i64 0, .int .i64 0, .string (⟨#[]⟩ : ByteArray)]) ?_ 0 _ rfl; (with_reducible repeat (first | refine blk_drewN ?_ _ | refine blk_drew ?_ | refine blk_alloc ?_ _)); exact BK186.out⟩, ⟨by repeat (first | (with_reducible first | exact HB.out | apply below_alloc | apply pw_below_drewN | apply below_drew1 | refine below_set ?_ GE186.out) | exact HB.out)⟩⟩
    · rw [if_neg c9] at H
      have c9b0 : (a2 == 0) = false := beq_eq_false_iff_ne.mpr c9
      have c9b1 : (a2 != 0) = true := bne_iff_ne.mpr c9
      (first | rw [c9b0] | (simp only [i64_w, i32_w]; rw [c9b0]) | skip)
      have H' := Aside0.mk H
      clear H
      go_wp2
      go_meet
      case rel => exact ⟨_, (t183), (t184), (t185), H', ⟨by first | omega | exact Nat.le_refl _⟩, ⟨by (with_reducible repeat (first | refine blk_drewN ?_ _ | refine blk_drew ?_ | refine blk_alloc ?_ _)); refine blk_put (cs := #[.int .i64 t183, .int .i64 t184, .string (⟨#[]⟩ : ByteArray)]) ?_ 2 _ rfl; (with_reducible repeat (first | refine blk_drewN ?_ _ | refine blk_drew ?_ | refine blk_alloc ?_ _)); refine blk_put (cs := #[.int .i64 t183, .int .i64 0, .string (⟨#[]⟩ : ByteArray)]) ?_ 1 _ rfl; (with_reducible repeat (first | refine blk_drewN ?_ _ | refine blk_drew ?_ | refine blk_alloc ?_ _)); refine blk_put (cs := #[.int .i64 0, .int .i64 0, .string (⟨#[]⟩ : ByteArray)]) ?_ 0 _ rfl; (with_reducible repeat (first | refine blk_drewN ?_ _ | refine blk_drew ?_ | refine blk_alloc ?_ _)); exact BK186.out⟩, ⟨by repeat (first | (with_reducible first | exact HB.out | apply below_alloc | apply pw_below_drewN | apply below_drew1 | refine below_set ?_ GE186.out) | exact HB.out)⟩⟩
  case rest =>
    clear HC5
    try clear p2
    try clear c4
    try clear c7
    try clear c9
    try clear c9b0
    try clear c9b1
    try clear hcz10_0
    try clear hcz10_1
    try clear hcz10_2
    try clear hcz8_0
    try clear hcz8_1
    try clear hcz8_2
    try clear hfz10_0
    try clear hfz10_1
    try clear hfz10_2
    try clear hfz8_0
    try clear hfz8_1
    try clear hfz8_2
    obtain ⟨kq, x187000_4, x187001_4, x187002_4, HA, HJ4, BK186, HB⟩ := hcut
    cases kq with
    | zero => exact absurd HA.out (by simp [impl_replyText.j0])
    | succ kj4 =>
      have H := HA.out
      clear HA
      simp only [impl_replyText.j0] at H
      replace H := Option.bind_eq_some_iff.mp H
      obtain ⟨⟨t187, t188, t189⟩, A110, H⟩ := H
      replace H : ((impl_numVal.f a0).bind fun bt190 => ((impl_textVal.f (⟨#[114, 101, 115, 117, 108, 116]⟩ : ByteArray)).bind fun bt196 => ((impl_flag.f a1).bind fun t199 => ((impl_textVal.f (⟨#[101, 114, 114, 111, 114]⟩ : ByteArray)).bind fun bt203 => ((impl_message.f kj4 (([(([(⟨t187, t188, t189⟩ : S81), (⟨bt190.1, bt190.2.1, bt190.2.2⟩ : S81)] : List (S81))), (([(⟨bt196.1, bt196.2.1, bt196.2.2⟩ : S81), (⟨2, t199, (⟨#[]⟩ : ByteArray)⟩ : S81)] : List (S81))), (([(⟨bt203.1, bt203.2.1, bt203.2.2⟩ : S81), (⟨x187000_4, x187001_4, x187002_4⟩ : S81)] : List (S81)))] : List (List (S81))))).bind fun t212 => ((impl_printed.f t212).bind fun t215 => (some t215))))))) = some r := H
      have A11 := Aside0.mk A110
      clear A110
      replace H := Option.bind_eq_some_iff.mp H
      obtain ⟨⟨t190, t191, t192⟩, A120, H⟩ := H
      replace H : ((impl_textVal.f (⟨#[114, 101, 115, 117, 108, 116]⟩ : ByteArray)).bind fun bt196 => ((impl_flag.f a1).bind fun t199 => ((impl_textVal.f (⟨#[101, 114, 114, 111, 114]⟩ : ByteArray)).bind fun bt203 => ((impl_message.f kj4 (([(([(⟨t187, t188, t189⟩ : S81), (⟨t190, t191, t192⟩ : S81)] : List (S81))), (([(⟨bt196.1, bt196.2.1, bt196.2.2⟩ : S81), (⟨2, t199, (⟨#[]⟩ : ByteArray)⟩ : S81)] : List (S81))), (([(⟨bt203.1, bt203.2.1, bt203.2.2⟩ : S81), (⟨x187000_4, x187001_4, x187002_4⟩ : S81)] : List (S81)))] : List (List (S81))))).bind fun t212 => ((impl_printed.f t212).bind fun t215 => (some t215)))))) = some r := H
      have A12 := Aside0.mk A120
      clear A120
      obtain ⟨y193, hy193⟩ : ∃ y_ : List (S81), y_ = (([(⟨t187, t188, t189⟩ : S81), (⟨t190, t191, t192⟩ : S81)] : List (S81))) := ⟨_, rfl⟩
      replace H : ((impl_textVal.f (⟨#[114, 101, 115, 117, 108, 116]⟩ : ByteArray)).bind fun bt196 => ((impl_flag.f a1).bind fun t199 => ((impl_textVal.f (⟨#[101, 114, 114, 111, 114]⟩ : ByteArray)).bind fun bt203 => ((impl_message.f kj4 (([y193, (([(⟨bt196.1, bt196.2.1, bt196.2.2⟩ : S81), (⟨2, t199, (⟨#[]⟩ : ByteArray)⟩ : S81)] : List (S81))), (([(⟨bt203.1, bt203.2.1, bt203.2.2⟩ : S81), (⟨x187000_4, x187001_4, x187002_4⟩ : S81)] : List (S81)))] : List (List (S81))))).bind fun t212 => ((impl_printed.f t212).bind fun t215 => (some t215)))))) = some r := by first | (rw [hy193]; with_reducible exact H) | (have H2_ := (Option.bind_some _ _).symm.trans H; rw [hy193]; with_reducible exact H2_) | (have H2_ := (Option.bind_some _ _).symm.trans H; with_reducible exact H2_) | with_reducible exact H | (rw [hy193]; exact H) | exact H
      have Ny193 := Aside0.mk hy193
      clear hy193
      replace H := Option.bind_eq_some_iff.mp H
      obtain ⟨⟨t196, t197, t198⟩, A130, H⟩ := H
      replace H : ((impl_flag.f a1).bind fun t199 => ((impl_textVal.f (⟨#[101, 114, 114, 111, 114]⟩ : ByteArray)).bind fun bt203 => ((impl_message.f kj4 (([y193, (([(⟨t196, t197, t198⟩ : S81), (⟨2, t199, (⟨#[]⟩ : ByteArray)⟩ : S81)] : List (S81))), (([(⟨bt203.1, bt203.2.1, bt203.2.2⟩ : S81), (⟨x187000_4, x187001_4, x187002_4⟩ : S81)] : List (S81)))] : List (List (S81))))).bind fun t212 => ((impl_printed.f t212).bind fun t215 => (some t215))))) = some r := H
      have A13 := Aside0.mk A130
      clear A130
      replace H := Option.bind_eq_some_iff.mp H
      obtain ⟨t199, A140, H⟩ := H
      replace H : ((impl_textVal.f (⟨#[101, 114, 114, 111, 114]⟩ : ByteArray)).bind fun bt203 => ((impl_message.f kj4 (([y193, (([(⟨t196, t197, t198⟩ : S81), (⟨2, t199, (⟨#[]⟩ : ByteArray)⟩ : S81)] : List (S81))), (([(⟨bt203.1, bt203.2.1, bt203.2.2⟩ : S81), (⟨x187000_4, x187001_4, x187002_4⟩ : S81)] : List (S81)))] : List (List (S81))))).bind fun t212 => ((impl_printed.f t212).bind fun t215 => (some t215)))) = some r := H
      have A14 := Aside0.mk A140
      clear A140
      obtain ⟨y200, hy200⟩ : ∃ y_ : List (S81), y_ = (([(⟨t196, t197, t198⟩ : S81), (⟨2, t199, (⟨#[]⟩ : ByteArray)⟩ : S81)] : List (S81))) := ⟨_, rfl⟩
      replace H : ((impl_textVal.f (⟨#[101, 114, 114, 111, 114]⟩ : ByteArray)).bind fun bt203 => ((impl_message.f kj4 (([y193, y200, (([(⟨bt203.1, bt203.2.1, bt203.2.2⟩ : S81), (⟨x187000_4, x187001_4, x187002_4⟩ : S81)] : List (S81)))] : List (List (S81))))).bind fun t212 => ((impl_printed.f t212).bind fun t215 => (some t215)))) = some r := by first | (rw [hy200]; with_reducible exact H) | (have H2_ := (Option.bind_some _ _).symm.trans H; rw [hy200]; with_reducible exact H2_) | (have H2_ := (Option.bind_some _ _).symm.trans H; with_reducible exact H2_) | with_reducible exact H | (rw [hy200]; exact H) | exact H
      have Ny200 := Aside0.mk hy200
      clear hy200
      replace H := Option.bind_eq_some_iff.mp H
      obtain ⟨⟨t203, t204, t205⟩, A150, H⟩ := H
      replace H : ((impl_message.f kj4 (([y193, y200, (([(⟨t203, t204, t205⟩ : S81), (⟨x187000_4, x187001_4, x187002_4⟩ : S81)] : List (S81)))] : List (List (S81))))).bind fun t212 => ((impl_printed.f t212).bind fun t215 => (some t215))) = some r := H
      have A15 := Aside0.mk A150
      clear A150
      obtain ⟨y206, hy206⟩ : ∃ y_ : List (S81), y_ = (([(⟨t203, t204, t205⟩ : S81), (⟨x187000_4, x187001_4, x187002_4⟩ : S81)] : List (S81))) := ⟨_, rfl⟩
      replace H : ((impl_message.f kj4 (([y193, y200, y206] : List (List (S81))))).bind fun t212 => ((impl_printed.f t212).bind fun t215 => (some t215))) = some r := by first | (rw [hy206]; with_reducible exact H) | (have H2_ := (Option.bind_some _ _).symm.trans H; rw [hy206]; with_reducible exact H2_) | (have H2_ := (Option.bind_some _ _).symm.trans H; with_reducible exact H2_) | with_reducible exact H | (rw [hy206]; exact H) | exact H
      have Ny206 := Aside0.mk hy206
      clear hy206
      obtain ⟨y209, hy209⟩ : ∃ y_ : List (List (S81)), y_ = (([y193, y200, y206] : List (List (S81)))) := ⟨_, rfl⟩
      replace H : ((impl_message.f kj4 y209).bind fun t212 => ((impl_printed.f t212).bind fun t215 => (some t215))) = some r := by first | (rw [hy209]; with_reducible exact H) | (have H2_ := (Option.bind_some _ _).symm.trans H; rw [hy209]; with_reducible exact H2_) | (have H2_ := (Option.bind_some _ _).symm.trans H; with_reducible exact H2_) | with_reducible exact H | (rw [hy209]; exact H) | exact H
      have Ny209 := Aside0.mk hy209
      clear hy209
      replace H := Option.bind_eq_some_iff.mp H
      obtain ⟨t212, A160, H⟩ := H
      replace H : ((impl_printed.f t212).bind fun t215 => (some t215)) = some r := H
      have A16 := Aside0.mk A160
      clear A160
      replace H := Option.bind_eq_some_iff.mp H
      obtain ⟨t215, A170, H⟩ := H
      replace H : (some t215) = some r := H
      have A17 := Aside0.mk A170
      clear A170
      obtain rfl := Option.some.inj H
      try go_wp2
      have n0_ := Aside0.mk (blk_drew BK186.out)
      have n1_ := Aside0.mk (below_drew1 HB.out)
      clear BK186
      clear HB
      have BK186 := n0_
      have HB := n1_
      clear n0_ n1_
      refine start_ (n := 16) (S := fun w' => w'.cell? ⟨gb186, 0, none⟩ = some (.int .i64 x187000_4) ∧ w'.cell? ⟨gb186, 1, none⟩ = some (.int .i64 x187001_4) ∧ w'.cell? ⟨gb186, 2, none⟩ = some (.string x187002_4)) (ds := []) #[false, false, false, false, false, false, false, false, false, false, false, false, false, false, false, false] (by kernel_rfl) rfl rfl ⟨(blk_cell BK186.out 0).trans rfl, (blk_cell BK186.out 1).trans rfl, (blk_cell BK186.out 2).trans rfl⟩ (fun hHeld => ?_); refine with_tabW impl_replyText.tab4 impl_replyText.bits4 (fun HT_ HW_ => ?_)
      generalize wc.drew = w18 at BK186 HB hHeld ⊢
      refine pure_ (i := 1) (N := some 14) (v := ?_) (a' := ?_) #[false, true, false, false, false, false, false, false, false, false, false, false, false, false, false, false] rfl rfl (any_of HT_.out (by kernel_rfl)) (fun _ _ _ h => h) (Or.inl ⟨by rfl, ?_⟩) ?_ ?_
      rotate_left
      · intro w'
        go_simp
        with_reducible rfl
      rotate_left
      · simp only [Act.put, List.setIfInBounds_toArray, List.set_cons_zero, List.set_cons_succ, i64_w, i32_w]
        rfl
      refine pure_ (i := 5) (N := some 18) (v := ?_) (a' := ?_) #[false, true, false, false, false, true, false, false, false, false, false, false, false, false, false, false] rfl rfl (any_of HT_.out (by kernel_rfl)) (fun _ _ _ h => h) (Or.inl ⟨by rfl, ?_⟩) ?_ ?_
      rotate_left
      · intro w'
        go_simp
        with_reducible rfl
      rotate_left
      · simp only [Act.put, List.setIfInBounds_toArray, List.set_cons_zero, List.set_cons_succ, i64_w, i32_w]
        rfl
      refine take_ (i := 10) (N := some 23) (v := ?_) (a' := ?_) #[false, true, false, false, false, true, false, false, false, false, true, false, false, false, false, false] rfl rfl (take_ofW HT_.out HW_.out (by kernel_rfl)) (fun _ _ _ h => h) (Or.inl ⟨by rfl, ?_⟩) hHeld ?_ ?_
      rotate_left
      · rintro w' ⟨s0, s1, s2⟩
        go_simp
        with_reducible rfl
      rotate_left
      · simp only [Act.put, List.setIfInBounds_toArray, List.set_cons_zero, List.set_cons_succ, i64_w, i32_w]
        rfl
      refine one_ (i := 0) (N := some 13) #[true, true, false, false, false, true, false, false, false, false, true, false, false, false, false, false] rfl rfl (one_of HT_.out (by kernel_rfl)) (by decide) (fun K hK => ?_)
      refine goes_ Tryd.func75 (by kernel_rfl) rfl #[.string (⟨#[105, 100]⟩ : ByteArray)] (by rfl) rfl rfl (by (try simp only [List.map_toArray, List.map_cons, List.map_nil]); first | done | rfl | (simp only [List.length_drop, List.length_take]; rfl)) ?_
      with_reducible refine (impl_textVal.calls (⟨#[105, 100]⟩ : ByteArray) t187 t188 t189 _ A11.out).mono ?_
      rintro e w19 ⟨rfl, hb⟩
      refine ⟨_, rfl, ?_⟩
      have n0_ := Aside0.mk (blk_below (g := gb186) (o := .cells #[.int .i64 x187000_4, .int .i64 x187001_4, .string x187002_4] 81 (0, 0)) (by (with_reducible repeat (first | refine blk_drewN ?_ _ | refine blk_drew ?_ | refine blk_alloc ?_ _)); exact BK186.out) hb)
      have n1_ := Aside0.mk (below_step (by repeat (first | (with_reducible first | exact HB.out | apply below_alloc | apply pw_below_drewN | apply below_drew1 | refine below_set ?_ GE186.out) | exact HB.out)) hb)
      clear BK186
      clear HB
      have BK186 := n0_
      have HB := n1_
      clear n0_ n1_
      (try clear hb)
      (try clear hb2)
      (try clear hk)
      (try clear hi)
      refine hK.out _ _ ⟨(blk_cell BK186.out 0).trans rfl, (blk_cell BK186.out 1).trans rfl, (blk_cell BK186.out 2).trans rfl⟩ (fun hHeld => ?_)
      clear hK K
      refine norm_ (a' := ?_) ?_ ?_
      rotate_left
      · show Act.put _ (some 13) _ = _
        simp only [Act.put, List.setIfInBounds_toArray, List.set_cons_zero, List.set_cons_succ, i64_w, i32_w]
        rfl
      refine one_ (i := 2) (N := some 15) #[true, true, true, false, false, true, false, false, false, false, true, false, false, false, false, false] rfl rfl (one_of HT_.out (by kernel_rfl)) (by decide) (fun K hK => ?_)
      refine goes_ Tryd.func73 (by kernel_rfl) rfl #[.int .i64 a0] (by rfl) rfl rfl (by (try simp only [List.map_toArray, List.map_cons, List.map_nil]); first | done | rfl | (simp only [List.length_drop, List.length_take]; rfl)) ?_
      with_reducible refine (impl_numVal.calls a0 t190 t191 t192 _ A12.out).mono ?_
      rintro e w20 ⟨rfl, hb⟩
      refine ⟨_, rfl, ?_⟩
      have n0_ := Aside0.mk (blk_below (g := gb186) (o := .cells #[.int .i64 x187000_4, .int .i64 x187001_4, .string x187002_4] 81 (0, 0)) (by (with_reducible repeat (first | refine blk_drewN ?_ _ | refine blk_drew ?_ | refine blk_alloc ?_ _)); exact BK186.out) hb)
      have n1_ := Aside0.mk (below_step (by repeat (first | (with_reducible first | exact HB.out | apply below_alloc | apply pw_below_drewN | apply below_drew1 | refine below_set ?_ GE186.out) | exact HB.out)) hb)
      clear BK186
      clear HB
      have BK186 := n0_
      have HB := n1_
      clear n0_ n1_
      (try clear hb)
      (try clear hb2)
      (try clear hk)
      (try clear hi)
      refine hK.out _ _ ⟨(blk_cell BK186.out 0).trans rfl, (blk_cell BK186.out 1).trans rfl, (blk_cell BK186.out 2).trans rfl⟩ (fun hHeld => ?_)
      clear hK K
      refine norm_ (a' := ?_) ?_ ?_
      rotate_left
      · show Act.put _ (some 15) _ = _
        simp only [Act.put, List.setIfInBounds_toArray, List.set_cons_zero, List.set_cons_succ, i64_w, i32_w]
        rfl
      refine join_ (σ := Value × Value × Value) 4 #[true, true, true, true, true, true, true, true, true, true, true, true, false, false, false, false] (fun s_ => [(16, s_.1), (17, .agg #[.int .i64 t196, .int .i64 t197, .string t198]), (19, .int .i64 t199), (21, s_.2.1), (22, .agg #[.int .i64 t203, .int .i64 t204, .string t205]), (24, s_.2.2), (20, .agg #[.int .i64 2, .int .i64 t199, .string (⟨#[]⟩ : ByteArray)])]) (fun s_ w' => (w'.cell? ⟨gb186, 0, none⟩ = some (.int .i64 x187000_4) ∧ w'.cell? ⟨gb186, 1, none⟩ = some (.int .i64 x187001_4) ∧ w'.cell? ⟨gb186, 2, none⟩ = some (.string x187002_4)) ∧ (Kd.R k81 81 w' w.heap.size (fun k_ => some k_ ≠ (s_.2.1 : Value).ownBlock ∧ some k_ ≠ (s_.2.2 : Value).ownBlock ∧ k_ ≠ gb186) s_.1 y193) ∧ (Kd.R k81 81 w' w.heap.size (fun k_ => some k_ ≠ (s_.1 : Value).ownBlock ∧ some k_ ≠ (s_.2.2 : Value).ownBlock ∧ k_ ≠ gb186) s_.2.1 y200) ∧ (Kd.R k81 81 w' w.heap.size (fun k_ => some k_ ≠ (s_.1 : Value).ownBlock ∧ some k_ ≠ (s_.2.1 : Value).ownBlock ∧ k_ ≠ gb186) s_.2.2 y206) ∧ (w'.heap[gb186]? = some (.cells #[.int .i64 x187000_4, .int .i64 x187001_4, .string x187002_4] 81 (0, 0))) ∧ (Below w.heap.size w w')) ?_ ?_
      rotate_left
      · intro hJ3_4_6_8_9_11
        refine join_ (σ := Value × Value) 5 #[true, true, true, true, true, true, true, true, true, true, true, false, false, false, false, false] (fun s_ => [(16, s_.1), (17, .agg #[.int .i64 t196, .int .i64 t197, .string t198]), (19, .int .i64 t199), (21, s_.2), (22, .agg #[.int .i64 t203, .int .i64 t204, .string t205]), (20, .agg #[.int .i64 2, .int .i64 t199, .string (⟨#[]⟩ : ByteArray)])]) (fun s_ w' => (w'.cell? ⟨gb186, 0, none⟩ = some (.int .i64 x187000_4) ∧ w'.cell? ⟨gb186, 1, none⟩ = some (.int .i64 x187001_4) ∧ w'.cell? ⟨gb186, 2, none⟩ = some (.string x187002_4)) ∧ (Kd.R k81 81 w' w.heap.size (fun k_ => some k_ ≠ (s_.2 : Value).ownBlock ∧ k_ ≠ gb186) s_.1 y193) ∧ (Kd.R k81 81 w' w.heap.size (fun k_ => some k_ ≠ (s_.1 : Value).ownBlock ∧ k_ ≠ gb186) s_.2 y200) ∧ (w'.heap[gb186]? = some (.cells #[.int .i64 x187000_4, .int .i64 x187001_4, .string x187002_4] 81 (0, 0))) ∧ (Below w.heap.size w w')) ?_ ?_
        rotate_left
        · intro hJ3_4_6_8_9
          refine join_ (σ := Value × Value) 5 #[true, true, true, true, true, true, true, true, false, true, true, true, false, false, false, false] (fun s_ => [(16, s_.1), (17, .agg #[.int .i64 t196, .int .i64 t197, .string t198]), (19, .int .i64 t199), (22, .agg #[.int .i64 t203, .int .i64 t204, .string t205]), (24, s_.2), (20, .agg #[.int .i64 2, .int .i64 t199, .string (⟨#[]⟩ : ByteArray)])]) (fun s_ w' => (w'.cell? ⟨gb186, 0, none⟩ = some (.int .i64 x187000_4) ∧ w'.cell? ⟨gb186, 1, none⟩ = some (.int .i64 x187001_4) ∧ w'.cell? ⟨gb186, 2, none⟩ = some (.string x187002_4)) ∧ (Kd.R k81 81 w' w.heap.size (fun k_ => some k_ ≠ (s_.2 : Value).ownBlock ∧ k_ ≠ gb186) s_.1 y193) ∧ (Kd.R k81 81 w' w.heap.size (fun k_ => some k_ ≠ (s_.1 : Value).ownBlock ∧ k_ ≠ gb186) s_.2 y206) ∧ (w'.heap[gb186]? = some (.cells #[.int .i64 x187000_4, .int .i64 x187001_4, .string x187002_4] 81 (0, 0))) ∧ (Below w.heap.size w w')) ?_ ?_
          rotate_left
          · intro hJ3_4_6_9_11
            refine join_ (σ := Value × Value) 5 #[true, true, true, false, true, true, true, true, true, true, true, true, false, false, false, false] (fun s_ => [(17, .agg #[.int .i64 t196, .int .i64 t197, .string t198]), (19, .int .i64 t199), (21, s_.1), (22, .agg #[.int .i64 t203, .int .i64 t204, .string t205]), (24, s_.2), (20, .agg #[.int .i64 2, .int .i64 t199, .string (⟨#[]⟩ : ByteArray)])]) (fun s_ w' => (w'.cell? ⟨gb186, 0, none⟩ = some (.int .i64 x187000_4) ∧ w'.cell? ⟨gb186, 1, none⟩ = some (.int .i64 x187001_4) ∧ w'.cell? ⟨gb186, 2, none⟩ = some (.string x187002_4)) ∧ (Kd.R k81 81 w' w.heap.size (fun k_ => some k_ ≠ (s_.2 : Value).ownBlock ∧ k_ ≠ gb186) s_.1 y200) ∧ (Kd.R k81 81 w' w.heap.size (fun k_ => some k_ ≠ (s_.1 : Value).ownBlock ∧ k_ ≠ gb186) s_.2 y206) ∧ (w'.heap[gb186]? = some (.cells #[.int .i64 x187000_4, .int .i64 x187001_4, .string x187002_4] 81 (0, 0))) ∧ (Below w.heap.size w w')) ?_ ?_
            rotate_left
            · intro hJ4_6_8_9_11
              refine join_ (σ := Value × Value) 6 #[true, true, true, true, true, true, true, true, true, false, true, false, false, false, false, false] (fun s_ => [(16, s_.1), (17, .agg #[.int .i64 t196, .int .i64 t197, .string t198]), (19, .int .i64 t199), (21, s_.2), (20, .agg #[.int .i64 2, .int .i64 t199, .string (⟨#[]⟩ : ByteArray)])]) (fun s_ w' => (w'.cell? ⟨gb186, 0, none⟩ = some (.int .i64 x187000_4) ∧ w'.cell? ⟨gb186, 1, none⟩ = some (.int .i64 x187001_4) ∧ w'.cell? ⟨gb186, 2, none⟩ = some (.string x187002_4)) ∧ (Kd.R k81 81 w' w.heap.size (fun k_ => some k_ ≠ (s_.2 : Value).ownBlock ∧ k_ ≠ gb186) s_.1 y193) ∧ (Kd.R k81 81 w' w.heap.size (fun k_ => some k_ ≠ (s_.1 : Value).ownBlock ∧ k_ ≠ gb186) s_.2 y200) ∧ (w'.heap[gb186]? = some (.cells #[.int .i64 x187000_4, .int .i64 x187001_4, .string x187002_4] 81 (0, 0))) ∧ (Below w.heap.size w w')) ?_ ?_
              rotate_left
              · intro hJ3_4_6_8
                refine join_ (σ := Value) 6 #[true, true, true, true, true, true, true, true, false, true, true, false, false, false, false, false] (fun s_ => [(16, s_), (17, .agg #[.int .i64 t196, .int .i64 t197, .string t198]), (19, .int .i64 t199), (22, .agg #[.int .i64 t203, .int .i64 t204, .string t205]), (20, .agg #[.int .i64 2, .int .i64 t199, .string (⟨#[]⟩ : ByteArray)])]) (fun s_ w' => (w'.cell? ⟨gb186, 0, none⟩ = some (.int .i64 x187000_4) ∧ w'.cell? ⟨gb186, 1, none⟩ = some (.int .i64 x187001_4) ∧ w'.cell? ⟨gb186, 2, none⟩ = some (.string x187002_4)) ∧ (Kd.R k81 81 w' w.heap.size (fun k_ => k_ ≠ gb186) s_ y193) ∧ (w'.heap[gb186]? = some (.cells #[.int .i64 x187000_4, .int .i64 x187001_4, .string x187002_4] 81 (0, 0))) ∧ (Below w.heap.size w w')) ?_ ?_
                rotate_left
                · intro hJ3_4_6_9
                  refine join_ (σ := Value) 6 #[true, true, true, false, true, true, true, true, true, true, true, false, false, false, false, false] (fun s_ => [(17, .agg #[.int .i64 t196, .int .i64 t197, .string t198]), (19, .int .i64 t199), (21, s_), (22, .agg #[.int .i64 t203, .int .i64 t204, .string t205]), (20, .agg #[.int .i64 2, .int .i64 t199, .string (⟨#[]⟩ : ByteArray)])]) (fun s_ w' => (w'.cell? ⟨gb186, 0, none⟩ = some (.int .i64 x187000_4) ∧ w'.cell? ⟨gb186, 1, none⟩ = some (.int .i64 x187001_4) ∧ w'.cell? ⟨gb186, 2, none⟩ = some (.string x187002_4)) ∧ (Kd.R k81 81 w' w.heap.size (fun k_ => k_ ≠ gb186) s_ y200) ∧ (w'.heap[gb186]? = some (.cells #[.int .i64 x187000_4, .int .i64 x187001_4, .string x187002_4] 81 (0, 0))) ∧ (Below w.heap.size w w')) ?_ ?_
                  rotate_left
                  · intro hJ4_6_8_9
                    refine join_ (σ := Value) 6 #[true, true, true, false, true, true, true, true, false, true, true, true, false, false, false, false] (fun s_ => [(17, .agg #[.int .i64 t196, .int .i64 t197, .string t198]), (19, .int .i64 t199), (22, .agg #[.int .i64 t203, .int .i64 t204, .string t205]), (24, s_), (20, .agg #[.int .i64 2, .int .i64 t199, .string (⟨#[]⟩ : ByteArray)])]) (fun s_ w' => (w'.cell? ⟨gb186, 0, none⟩ = some (.int .i64 x187000_4) ∧ w'.cell? ⟨gb186, 1, none⟩ = some (.int .i64 x187001_4) ∧ w'.cell? ⟨gb186, 2, none⟩ = some (.string x187002_4)) ∧ (Kd.R k81 81 w' w.heap.size (fun k_ => k_ ≠ gb186) s_ y206) ∧ (w'.heap[gb186]? = some (.cells #[.int .i64 x187000_4, .int .i64 x187001_4, .string x187002_4] 81 (0, 0))) ∧ (Below w.heap.size w w')) ?_ ?_
                    rotate_left
                    · intro hJ4_6_9_11
                      refine join_ (σ := Value) 7 #[true, true, true, true, true, true, true, true, false, false, true, false, false, false, false, false] (fun s_ => [(16, s_), (17, .agg #[.int .i64 t196, .int .i64 t197, .string t198]), (19, .int .i64 t199), (20, .agg #[.int .i64 2, .int .i64 t199, .string (⟨#[]⟩ : ByteArray)])]) (fun s_ w' => (w'.cell? ⟨gb186, 0, none⟩ = some (.int .i64 x187000_4) ∧ w'.cell? ⟨gb186, 1, none⟩ = some (.int .i64 x187001_4) ∧ w'.cell? ⟨gb186, 2, none⟩ = some (.string x187002_4)) ∧ (Kd.R k81 81 w' w.heap.size (fun k_ => k_ ≠ gb186) s_ y193) ∧ (w'.heap[gb186]? = some (.cells #[.int .i64 x187000_4, .int .i64 x187001_4, .string x187002_4] 81 (0, 0))) ∧ (Below w.heap.size w w')) ?_ ?_
                      rotate_left
                      · intro hJ3_4_6
                        refine join_ (σ := Value) 7 #[true, true, true, false, true, true, true, true, true, false, true, false, false, false, false, false] (fun s_ => [(17, .agg #[.int .i64 t196, .int .i64 t197, .string t198]), (19, .int .i64 t199), (21, s_), (20, .agg #[.int .i64 2, .int .i64 t199, .string (⟨#[]⟩ : ByteArray)])]) (fun s_ w' => (w'.cell? ⟨gb186, 0, none⟩ = some (.int .i64 x187000_4) ∧ w'.cell? ⟨gb186, 1, none⟩ = some (.int .i64 x187001_4) ∧ w'.cell? ⟨gb186, 2, none⟩ = some (.string x187002_4)) ∧ (Kd.R k81 81 w' w.heap.size (fun k_ => k_ ≠ gb186) s_ y200) ∧ (w'.heap[gb186]? = some (.cells #[.int .i64 x187000_4, .int .i64 x187001_4, .string x187002_4] 81 (0, 0))) ∧ (Below w.heap.size w w')) ?_ ?_
                        rotate_left
                        · intro hJ4_6_8
                          refine join_ (σ := Unit) 7 #[true, true, true, false, true, true, true, true, false, true, true, false, false, false, false, false] (fun s_ => [(17, .agg #[.int .i64 t196, .int .i64 t197, .string t198]), (19, .int .i64 t199), (22, .agg #[.int .i64 t203, .int .i64 t204, .string t205]), (20, .agg #[.int .i64 2, .int .i64 t199, .string (⟨#[]⟩ : ByteArray)])]) (fun s_ w' => (w'.cell? ⟨gb186, 0, none⟩ = some (.int .i64 x187000_4) ∧ w'.cell? ⟨gb186, 1, none⟩ = some (.int .i64 x187001_4) ∧ w'.cell? ⟨gb186, 2, none⟩ = some (.string x187002_4)) ∧ (w'.heap[gb186]? = some (.cells #[.int .i64 x187000_4, .int .i64 x187001_4, .string x187002_4] 81 (0, 0))) ∧ (Below w.heap.size w w')) ?_ ?_
                          rotate_left
                          · intro hJ4_6_9
                            refine join_ (σ := Value) 9 #[true, true, true, true, true, true, false, false, false, false, true, false, false, false, false, false] (fun s_ => [(16, s_), (17, .agg #[.int .i64 t196, .int .i64 t197, .string t198])]) (fun s_ w' => (w'.cell? ⟨gb186, 0, none⟩ = some (.int .i64 x187000_4) ∧ w'.cell? ⟨gb186, 1, none⟩ = some (.int .i64 x187001_4) ∧ w'.cell? ⟨gb186, 2, none⟩ = some (.string x187002_4)) ∧ (Kd.R k81 81 w' w.heap.size (fun k_ => k_ ≠ gb186) s_ y193) ∧ (w'.heap[gb186]? = some (.cells #[.int .i64 x187000_4, .int .i64 x187001_4, .string x187002_4] 81 (0, 0))) ∧ (Below w.heap.size w w')) ?_ ?_
                            rotate_left
                            · intro hJ3_4
                              refine join_ (σ := Unit) 8 #[true, true, true, false, true, true, true, true, false, false, true, false, false, false, false, false] (fun s_ => [(17, .agg #[.int .i64 t196, .int .i64 t197, .string t198]), (19, .int .i64 t199), (20, .agg #[.int .i64 2, .int .i64 t199, .string (⟨#[]⟩ : ByteArray)])]) (fun s_ w' => (w'.cell? ⟨gb186, 0, none⟩ = some (.int .i64 x187000_4) ∧ w'.cell? ⟨gb186, 1, none⟩ = some (.int .i64 x187001_4) ∧ w'.cell? ⟨gb186, 2, none⟩ = some (.string x187002_4)) ∧ (w'.heap[gb186]? = some (.cells #[.int .i64 x187000_4, .int .i64 x187001_4, .string x187002_4] 81 (0, 0))) ∧ (Below w.heap.size w w')) ?_ ?_
                              rotate_left
                              · intro hJ4_6
                                refine join_ (σ := Value) 10 #[true, true, true, true, false, true, false, false, false, false, true, false, false, false, false, false] (fun s_ => [(16, s_)]) (fun s_ w' => (w'.cell? ⟨gb186, 0, none⟩ = some (.int .i64 x187000_4) ∧ w'.cell? ⟨gb186, 1, none⟩ = some (.int .i64 x187001_4) ∧ w'.cell? ⟨gb186, 2, none⟩ = some (.string x187002_4)) ∧ (Kd.R k81 81 w' w.heap.size (fun k_ => k_ ≠ gb186) s_ y193) ∧ (w'.heap[gb186]? = some (.cells #[.int .i64 x187000_4, .int .i64 x187001_4, .string x187002_4] 81 (0, 0))) ∧ (Below w.heap.size w w')) ?_ ?_
                                rotate_left
                                · intro hJ3
                                  refine join_ (σ := Unit) 10 #[true, true, true, false, true, true, false, false, false, false, true, false, false, false, false, false] (fun s_ => [(17, .agg #[.int .i64 t196, .int .i64 t197, .string t198])]) (fun s_ w' => (w'.cell? ⟨gb186, 0, none⟩ = some (.int .i64 x187000_4) ∧ w'.cell? ⟨gb186, 1, none⟩ = some (.int .i64 x187001_4) ∧ w'.cell? ⟨gb186, 2, none⟩ = some (.string x187002_4)) ∧ (w'.heap[gb186]? = some (.cells #[.int .i64 x187000_4, .int .i64 x187001_4, .string x187002_4] 81 (0, 0))) ∧ (Below w.heap.size w w')) ?_ ?_
                                  rotate_left
                                  · intro hJ4
                                    refine two_ (i := 3) (j := 4) (Ni := some 16) (Nj := some 17) #[true, true, true, true, false, true, false, false, false, false, true, false, false, false, false, false] #[true, true, true, false, true, true, false, false, false, false, true, false, false, false, false, false] rfl rfl rfl rfl (two_of HT_.out (by kernel_rfl)) (by decide) (by decide) (fun K hK => ?_) (fun K hK => ?_)
                                    · skip
                                      refine Kd.R_lit_step k81 _ 81 ?hg (N := 16) ?hd (xs := ([(⟨t187, t188, t189⟩ : S81), (⟨t190, t191, t192⟩ : S81)] : List (S81))) (inner := [.int .i64 t187, .int .i64 t188, .string t189, .int .i64 t190, .int .i64 t191, .string t192]) (ok := fun _ => True) (okp := fun _ => True) ?hr ?hp (fun _ hk => hk) trivial (Below.refl _ _) (Nat.le_refl _) (by simp) ?_; (case hd => rfl); (case hg => rfl); (case hr => first | (go_simp; done) | (go_simp; rfl)); (case hp => exact (Reps.c3 (show Kd.M k81 _ _ _ (⟨t187, t188, t189⟩ : S81) [.int .i64 t187, .int .i64 t188, .string t189] from (k81_mkM _ _ _ (⟨t187, t188, t189⟩ : S81) )) (Reps.c3 (show Kd.M k81 _ _ _ (⟨t190, t191, t192⟩ : S81) [.int .i64 t190, .int .i64 t191, .string t192] from (k81_mkM _ _ _ (⟨t190, t191, t192⟩ : S81) )) (Reps.none _ _))))
                                      intro v194 w21 ho22 hb hg_ hnew_
                                      clear hg_ hnew_
                                      (first | rw [← Ny193.out] at ho22 | (simp only [Int.reduceToNat] at ho22; rw [← Ny193.out] at ho22))
                                      have n0_ := Aside0.mk (Kd.R_lower (Kd.R_newB ho22 (g := gb186) (o := .cells #[.int .i64 x187000_4, .int .i64 x187001_4, .string x187002_4] 81 (0, 0)) (by (with_reducible repeat (first | refine blk_drewN ?_ _ | refine blk_drew ?_ | refine blk_alloc ?_ _)); exact BK186.out)) (below_size (by repeat (first | (with_reducible first | exact HB.out | apply below_alloc | apply pw_below_drewN | apply below_drew1 | refine below_set ?_ GE186.out) | exact HB.out))))
                                      have n1_ := Aside0.mk (blk_below (g := gb186) (o := .cells #[.int .i64 x187000_4, .int .i64 x187001_4, .string x187002_4] 81 (0, 0)) (by (with_reducible repeat (first | refine blk_drewN ?_ _ | refine blk_drew ?_ | refine blk_alloc ?_ _)); exact BK186.out) hb)
                                      have n2_ := Aside0.mk (below_step (by repeat (first | (with_reducible first | exact HB.out | apply below_alloc | apply pw_below_drewN | apply below_drew1 | refine below_set ?_ GE186.out) | exact HB.out)) hb)
                                      clear BK186
                                      clear HB
                                      have HO195 := n0_
                                      have BK186 := n1_
                                      have HB := n2_
                                      clear n0_ n1_ n2_
                                      clear hb ho22
                                      refine hK.out _ _ ⟨(blk_cell BK186.out 0).trans rfl, (blk_cell BK186.out 1).trans rfl, (blk_cell BK186.out 2).trans rfl⟩ (fun hHeld => ?_)
                                      clear hK K
                                      refine norm_ (a' := ?_) ?_ ?_
                                      rotate_left
                                      · show Act.put _ (some 16) _ = _
                                        simp only [Act.put, List.setIfInBounds_toArray, List.set_cons_zero, List.set_cons_succ, i64_w, i32_w]
                                        rfl
                                      exact norm_ (by first | (simp only [putAll, Act.put, List.setIfInBounds_toArray, List.set_cons_zero, List.set_cons_succ]; done) | (simp only [putAll, Act.put, List.setIfInBounds_toArray, List.set_cons_zero, List.set_cons_succ]; rfl)) (hJ3 (v194) _ ⟨hHeld, (by (with_reducible repeat (first | apply Kd.R_alloc | apply Kd.R_drewN | apply Kd.R_drew)); exact Kd.R_mono HO195.out (fun _ hk => hk.2)), (by (with_reducible repeat (first | refine blk_drewN ?_ _ | refine blk_drew ?_ | refine blk_alloc ?_ _)); exact BK186.out), (by repeat (first | (with_reducible first | exact HB.out | apply below_alloc | apply pw_below_drewN | apply below_drew1 | refine below_set ?_ GE186.out) | exact HB.out))⟩)
                                    · skip
                                      refine goes_ Tryd.func75 (by kernel_rfl) rfl #[.string (⟨#[114, 101, 115, 117, 108, 116]⟩ : ByteArray)] (by rfl) rfl rfl (by (try simp only [List.map_toArray, List.map_cons, List.map_nil]); first | done | rfl | (simp only [List.length_drop, List.length_take]; rfl)) ?_
                                      with_reducible refine (impl_textVal.calls (⟨#[114, 101, 115, 117, 108, 116]⟩ : ByteArray) t196 t197 t198 _ A13.out).mono ?_
                                      rintro e w21 ⟨rfl, hb⟩
                                      refine ⟨_, rfl, ?_⟩
                                      have n0_ := Aside0.mk (blk_below (g := gb186) (o := .cells #[.int .i64 x187000_4, .int .i64 x187001_4, .string x187002_4] 81 (0, 0)) (by (with_reducible repeat (first | refine blk_drewN ?_ _ | refine blk_drew ?_ | refine blk_alloc ?_ _)); exact BK186.out) hb)
                                      have n1_ := Aside0.mk (below_step (by repeat (first | (with_reducible first | exact HB.out | apply below_alloc | apply pw_below_drewN | apply below_drew1 | refine below_set ?_ GE186.out) | exact HB.out)) hb)
                                      clear BK186
                                      clear HB
                                      have BK186 := n0_
                                      have HB := n1_
                                      clear n0_ n1_
                                      (try clear hb)
                                      (try clear hb2)
                                      (try clear hk)
                                      (try clear hi)
                                      refine hK.out _ _ ⟨(blk_cell BK186.out 0).trans rfl, (blk_cell BK186.out 1).trans rfl, (blk_cell BK186.out 2).trans rfl⟩ (fun hHeld => ?_)
                                      clear hK K
                                      refine norm_ (a' := ?_) ?_ ?_
                                      rotate_left
                                      · show Act.put _ (some 17) _ = _
                                        simp only [Act.put, List.setIfInBounds_toArray, List.set_cons_zero, List.set_cons_succ, i64_w, i32_w]
                                        rfl
                                      exact norm_ (by first | (simp only [putAll, Act.put, List.setIfInBounds_toArray, List.set_cons_zero, List.set_cons_succ]; done) | (simp only [putAll, Act.put, List.setIfInBounds_toArray, List.set_cons_zero, List.set_cons_succ]; rfl)) (hJ4 () _ ⟨hHeld, (by (with_reducible repeat (first | refine blk_drewN ?_ _ | refine blk_drew ?_ | refine blk_alloc ?_ _)); exact BK186.out), (by repeat (first | (with_reducible first | exact HB.out | apply below_alloc | apply pw_below_drewN | apply below_drew1 | refine below_set ?_ GE186.out) | exact HB.out))⟩)
                                  · skip
                                    rintro _ w22 ⟨hS_, h0_, h1_⟩
                                    have n0_ : Aside0 (w22.heap[gb186]? = some (.cells #[.int .i64 x187000_4, .int .i64 x187001_4, .string x187002_4] 81 (0, 0))) := ⟨h0_⟩
                                    have n1_ : Aside0 (Below w.heap.size w w22) := ⟨h1_⟩
                                    clear BK186
                                    clear HB
                                    clear h0_ h1_
                                    have BK186 := n0_
                                    have HB := n1_
                                    clear n0_ n1_
                                    have hHeld : w22.cell? ⟨gb186, 0, none⟩ = some (.int .i64 x187000_4) ∧ w22.cell? ⟨gb186, 1, none⟩ = some (.int .i64 x187001_4) ∧ w22.cell? ⟨gb186, 2, none⟩ = some (.string x187002_4) := hS_
                                    refine norm_ (a' := ?_) ?_ ?_
                                    rotate_left
                                    · simp only [putAll, Act.put, List.setIfInBounds_toArray, List.set_cons_zero, List.set_cons_succ]
                                      rfl
                                    refine two_ (i := 3) (j := 6) (Ni := some 16) (Nj := some 19) #[true, true, true, true, true, true, false, false, false, false, true, false, false, false, false, false] #[true, true, true, false, true, true, true, false, false, false, true, false, false, false, false, false] rfl rfl rfl rfl (two_of HT_.out (by kernel_rfl)) (by decide) (by decide) (fun K hK => ?_) (fun K hK => ?_)
                                    · skip
                                      refine Kd.R_lit_step k81 _ 81 ?hg (N := 16) ?hd (xs := ([(⟨t187, t188, t189⟩ : S81), (⟨t190, t191, t192⟩ : S81)] : List (S81))) (inner := [.int .i64 t187, .int .i64 t188, .string t189, .int .i64 t190, .int .i64 t191, .string t192]) (ok := fun _ => True) (okp := fun _ => True) ?hr ?hp (fun _ hk => hk) trivial (Below.refl _ _) (Nat.le_refl _) (by simp) ?_; (case hd => rfl); (case hg => rfl); (case hr => first | (go_simp; done) | (go_simp; rfl)); (case hp => exact (Reps.c3 (show Kd.M k81 _ _ _ (⟨t187, t188, t189⟩ : S81) [.int .i64 t187, .int .i64 t188, .string t189] from (k81_mkM _ _ _ (⟨t187, t188, t189⟩ : S81) )) (Reps.c3 (show Kd.M k81 _ _ _ (⟨t190, t191, t192⟩ : S81) [.int .i64 t190, .int .i64 t191, .string t192] from (k81_mkM _ _ _ (⟨t190, t191, t192⟩ : S81) )) (Reps.none _ _))))
                                      intro v194 w23 ho24 hb hg_ hnew_
                                      clear hg_ hnew_
                                      (first | rw [← Ny193.out] at ho24 | (simp only [Int.reduceToNat] at ho24; rw [← Ny193.out] at ho24))
                                      have n0_ := Aside0.mk (Kd.R_lower (Kd.R_newB ho24 (g := gb186) (o := .cells #[.int .i64 x187000_4, .int .i64 x187001_4, .string x187002_4] 81 (0, 0)) (by (with_reducible repeat (first | refine blk_drewN ?_ _ | refine blk_drew ?_ | refine blk_alloc ?_ _)); exact BK186.out)) (below_size (by repeat (first | (with_reducible first | exact HB.out | apply below_alloc | apply pw_below_drewN | apply below_drew1 | refine below_set ?_ GE186.out) | exact HB.out))))
                                      have n1_ := Aside0.mk (blk_below (g := gb186) (o := .cells #[.int .i64 x187000_4, .int .i64 x187001_4, .string x187002_4] 81 (0, 0)) (by (with_reducible repeat (first | refine blk_drewN ?_ _ | refine blk_drew ?_ | refine blk_alloc ?_ _)); exact BK186.out) hb)
                                      have n2_ := Aside0.mk (below_step (by repeat (first | (with_reducible first | exact HB.out | apply below_alloc | apply pw_below_drewN | apply below_drew1 | refine below_set ?_ GE186.out) | exact HB.out)) hb)
                                      clear BK186
                                      clear HB
                                      have HO195 := n0_
                                      have BK186 := n1_
                                      have HB := n2_
                                      clear n0_ n1_ n2_
                                      clear hb ho24
                                      refine hK.out _ _ ⟨(blk_cell BK186.out 0).trans rfl, (blk_cell BK186.out 1).trans rfl, (blk_cell BK186.out 2).trans rfl⟩ (fun hHeld => ?_)
                                      clear hK K
                                      refine norm_ (a' := ?_) ?_ ?_
                                      rotate_left
                                      · show Act.put _ (some 16) _ = _
                                        simp only [Act.put, List.setIfInBounds_toArray, List.set_cons_zero, List.set_cons_succ, i64_w, i32_w]
                                        rfl
                                      exact norm_ (by first | (simp only [putAll, Act.put, List.setIfInBounds_toArray, List.set_cons_zero, List.set_cons_succ]; done) | (simp only [putAll, Act.put, List.setIfInBounds_toArray, List.set_cons_zero, List.set_cons_succ]; rfl)) (hJ3_4 (v194) _ ⟨hHeld, (by (with_reducible repeat (first | apply Kd.R_alloc | apply Kd.R_drewN | apply Kd.R_drew)); exact Kd.R_mono HO195.out (fun _ hk => hk.2)), (by (with_reducible repeat (first | refine blk_drewN ?_ _ | refine blk_drew ?_ | refine blk_alloc ?_ _)); exact BK186.out), (by repeat (first | (with_reducible first | exact HB.out | apply below_alloc | apply pw_below_drewN | apply below_drew1 | refine below_set ?_ GE186.out) | exact HB.out))⟩)
                                    · skip
                                      refine goes_ Tryd.func76 (by kernel_rfl) rfl #[.bool a1] (by rfl) rfl rfl (by (try simp only [List.map_toArray, List.map_cons, List.map_nil]); first | done | rfl | (simp only [List.length_drop, List.length_take]; rfl)) ?_
                                      with_reducible refine (impl_flag.calls a1 t199 _ A14.out).mono ?_
                                      rintro e w' ⟨rfl, ⟨nd, rfl⟩⟩
                                      refine ⟨_, rfl, ?_⟩
                                      refine hK.out _ _ ⟨(blk_cell BK186.out 0).trans rfl, (blk_cell BK186.out 1).trans rfl, (blk_cell BK186.out 2).trans rfl⟩ (fun hHeld => ?_)
                                      clear hK K
                                      refine norm_ (a' := ?_) ?_ ?_
                                      rotate_left
                                      · show Act.put _ (some 19) _ = _
                                        simp only [Act.put, List.setIfInBounds_toArray, List.set_cons_zero, List.set_cons_succ, i64_w, i32_w]
                                        rfl
                                      refine pure_ (i := 7) (N := some 20) (v := ?_) (a' := ?_) #[true, true, true, false, true, true, true, true, false, false, true, false, false, false, false, false] rfl rfl (any_of HT_.out (by kernel_rfl)) (fun _ _ _ h => h) (Or.inl ⟨by rfl, ?_⟩) ?_ ?_
                                      rotate_left
                                      · intro w'
                                        go_simp
                                        with_reducible rfl
                                      rotate_left
                                      · simp only [Act.put, List.setIfInBounds_toArray, List.set_cons_zero, List.set_cons_succ, i64_w, i32_w]
                                        rfl
                                      exact norm_ (by first | (simp only [putAll, Act.put, List.setIfInBounds_toArray, List.set_cons_zero, List.set_cons_succ]; done) | (simp only [putAll, Act.put, List.setIfInBounds_toArray, List.set_cons_zero, List.set_cons_succ]; rfl)) (hJ4_6 () _ ⟨hHeld, (by (with_reducible repeat (first | refine blk_drewN ?_ _ | refine blk_drew ?_ | refine blk_alloc ?_ _)); exact BK186.out), (by repeat (first | (with_reducible first | exact HB.out | apply below_alloc | apply pw_below_drewN | apply below_drew1 | refine below_set ?_ GE186.out) | exact HB.out))⟩)
                                · skip
                                  rintro v194 w23 ⟨hS_, h0_, h1_, h2_⟩
                                  have n0_ : Aside0 (Kd.R k81 81 w23 w.heap.size (fun k_ => k_ ≠ gb186) v194 y193) := ⟨h0_⟩
                                  have n1_ : Aside0 (w23.heap[gb186]? = some (.cells #[.int .i64 x187000_4, .int .i64 x187001_4, .string x187002_4] 81 (0, 0))) := ⟨h1_⟩
                                  have n2_ : Aside0 (Below w.heap.size w w23) := ⟨h2_⟩
                                  clear BK186
                                  clear HB
                                  clear h0_ h1_ h2_
                                  have HO195 := n0_
                                  have BK186 := n1_
                                  have HB := n2_
                                  clear n0_ n1_ n2_
                                  have hHeld : w23.cell? ⟨gb186, 0, none⟩ = some (.int .i64 x187000_4) ∧ w23.cell? ⟨gb186, 1, none⟩ = some (.int .i64 x187001_4) ∧ w23.cell? ⟨gb186, 2, none⟩ = some (.string x187002_4) := hS_
                                  refine norm_ (a' := ?_) ?_ ?_
                                  rotate_left
                                  · simp only [putAll, Act.put, List.setIfInBounds_toArray, List.set_cons_zero, List.set_cons_succ]
                                    rfl
                                  refine one_ (i := 4) (N := some 17) #[true, true, true, true, true, true, false, false, false, false, true, false, false, false, false, false] rfl rfl (one_of HT_.out (by kernel_rfl)) (by decide) (fun K hK => ?_)
                                  refine goes_ Tryd.func75 (by kernel_rfl) rfl #[.string (⟨#[114, 101, 115, 117, 108, 116]⟩ : ByteArray)] (by rfl) rfl rfl (by (try simp only [List.map_toArray, List.map_cons, List.map_nil]); first | done | rfl | (simp only [List.length_drop, List.length_take]; rfl)) ?_
                                  with_reducible refine (impl_textVal.calls (⟨#[114, 101, 115, 117, 108, 116]⟩ : ByteArray) t196 t197 t198 _ A13.out).mono ?_
                                  rintro e w24 ⟨rfl, hb⟩
                                  refine ⟨_, rfl, ?_⟩
                                  have n0_ := Aside0.mk (Kd.R_below (by (with_reducible repeat (first | apply Kd.R_alloc | apply Kd.R_drewN | apply Kd.R_drew)); exact HO195.out) hb)
                                  have n1_ := Aside0.mk (blk_below (g := gb186) (o := .cells #[.int .i64 x187000_4, .int .i64 x187001_4, .string x187002_4] 81 (0, 0)) (by (with_reducible repeat (first | refine blk_drewN ?_ _ | refine blk_drew ?_ | refine blk_alloc ?_ _)); exact BK186.out) hb)
                                  have n2_ := Aside0.mk (below_step (by repeat (first | (with_reducible first | exact HB.out | apply below_alloc | apply pw_below_drewN | apply below_drew1 | refine below_set ?_ GE186.out) | exact HB.out)) hb)
                                  clear HO195
                                  clear BK186
                                  clear HB
                                  have HO195 := n0_
                                  have BK186 := n1_
                                  have HB := n2_
                                  clear n0_ n1_ n2_
                                  (try clear hb)
                                  (try clear hb2)
                                  (try clear hk)
                                  (try clear hi)
                                  refine hK.out _ _ ⟨(blk_cell BK186.out 0).trans rfl, (blk_cell BK186.out 1).trans rfl, (blk_cell BK186.out 2).trans rfl⟩ (fun hHeld => ?_)
                                  clear hK K
                                  refine norm_ (a' := ?_) ?_ ?_
                                  rotate_left
                                  · show Act.put _ (some 17) _ = _
                                    simp only [Act.put, List.setIfInBounds_toArray, List.set_cons_zero, List.set_cons_succ, i64_w, i32_w]
                                    rfl
                                  exact norm_ (by first | (simp only [putAll, Act.put, List.setIfInBounds_toArray, List.set_cons_zero, List.set_cons_succ]; done) | (simp only [putAll, Act.put, List.setIfInBounds_toArray, List.set_cons_zero, List.set_cons_succ]; rfl)) (hJ3_4 (v194) _ ⟨hHeld, (by (with_reducible repeat (first | apply Kd.R_alloc | apply Kd.R_drewN | apply Kd.R_drew)); exact HO195.out), (by (with_reducible repeat (first | refine blk_drewN ?_ _ | refine blk_drew ?_ | refine blk_alloc ?_ _)); exact BK186.out), (by repeat (first | (with_reducible first | exact HB.out | apply below_alloc | apply pw_below_drewN | apply below_drew1 | refine below_set ?_ GE186.out) | exact HB.out))⟩)
                              · skip
                                rintro _ w22 ⟨hS_, h0_, h1_⟩
                                have n0_ : Aside0 (w22.heap[gb186]? = some (.cells #[.int .i64 x187000_4, .int .i64 x187001_4, .string x187002_4] 81 (0, 0))) := ⟨h0_⟩
                                have n1_ : Aside0 (Below w.heap.size w w22) := ⟨h1_⟩
                                clear BK186
                                clear HB
                                clear h0_ h1_
                                have BK186 := n0_
                                have HB := n1_
                                clear n0_ n1_
                                have hHeld : w22.cell? ⟨gb186, 0, none⟩ = some (.int .i64 x187000_4) ∧ w22.cell? ⟨gb186, 1, none⟩ = some (.int .i64 x187001_4) ∧ w22.cell? ⟨gb186, 2, none⟩ = some (.string x187002_4) := hS_
                                refine norm_ (a' := ?_) ?_ ?_
                                rotate_left
                                · simp only [putAll, Act.put, List.setIfInBounds_toArray, List.set_cons_zero, List.set_cons_succ]
                                  rfl
                                refine three_ (i := 3) (j := 8) (k := 9) (Ni := some 16) (Nj := some 21) (Nk := some 22) #[true, true, true, true, true, true, true, true, false, false, true, false, false, false, false, false] #[true, true, true, false, true, true, true, true, true, false, true, false, false, false, false, false] #[true, true, true, false, true, true, true, true, false, true, true, false, false, false, false, false] rfl rfl rfl rfl rfl rfl (three_of HT_.out (by kernel_rfl)) (by decide) (by decide) (by decide) (fun K hK => ?_) (fun K hK => ?_) (fun K hK => ?_)
                                · skip
                                  refine Kd.R_lit_step k81 _ 81 ?hg (N := 16) ?hd (xs := ([(⟨t187, t188, t189⟩ : S81), (⟨t190, t191, t192⟩ : S81)] : List (S81))) (inner := [.int .i64 t187, .int .i64 t188, .string t189, .int .i64 t190, .int .i64 t191, .string t192]) (ok := fun _ => True) (okp := fun _ => True) ?hr ?hp (fun _ hk => hk) trivial (Below.refl _ _) (Nat.le_refl _) (by simp) ?_; (case hd => rfl); (case hg => rfl); (case hr => first | (go_simp; done) | (go_simp; rfl)); (case hp => exact (Reps.c3 (show Kd.M k81 _ _ _ (⟨t187, t188, t189⟩ : S81) [.int .i64 t187, .int .i64 t188, .string t189] from (k81_mkM _ _ _ (⟨t187, t188, t189⟩ : S81) )) (Reps.c3 (show Kd.M k81 _ _ _ (⟨t190, t191, t192⟩ : S81) [.int .i64 t190, .int .i64 t191, .string t192] from (k81_mkM _ _ _ (⟨t190, t191, t192⟩ : S81) )) (Reps.none _ _))))
                                  intro v194 w23 ho24 hb hg_ hnew_
                                  clear hg_ hnew_
                                  (first | rw [← Ny193.out] at ho24 | (simp only [Int.reduceToNat] at ho24; rw [← Ny193.out] at ho24))
                                  have n0_ := Aside0.mk (Kd.R_lower (Kd.R_newB ho24 (g := gb186) (o := .cells #[.int .i64 x187000_4, .int .i64 x187001_4, .string x187002_4] 81 (0, 0)) (by (with_reducible repeat (first | refine blk_drewN ?_ _ | refine blk_drew ?_ | refine blk_alloc ?_ _)); exact BK186.out)) (below_size (by repeat (first | (with_reducible first | exact HB.out | apply below_alloc | apply pw_below_drewN | apply below_drew1 | refine below_set ?_ GE186.out) | exact HB.out))))
                                  have n1_ := Aside0.mk (blk_below (g := gb186) (o := .cells #[.int .i64 x187000_4, .int .i64 x187001_4, .string x187002_4] 81 (0, 0)) (by (with_reducible repeat (first | refine blk_drewN ?_ _ | refine blk_drew ?_ | refine blk_alloc ?_ _)); exact BK186.out) hb)
                                  have n2_ := Aside0.mk (below_step (by repeat (first | (with_reducible first | exact HB.out | apply below_alloc | apply pw_below_drewN | apply below_drew1 | refine below_set ?_ GE186.out) | exact HB.out)) hb)
                                  clear BK186
                                  clear HB
                                  have HO195 := n0_
                                  have BK186 := n1_
                                  have HB := n2_
                                  clear n0_ n1_ n2_
                                  clear hb ho24
                                  refine hK.out _ _ ⟨(blk_cell BK186.out 0).trans rfl, (blk_cell BK186.out 1).trans rfl, (blk_cell BK186.out 2).trans rfl⟩ (fun hHeld => ?_)
                                  clear hK K
                                  refine norm_ (a' := ?_) ?_ ?_
                                  rotate_left
                                  · show Act.put _ (some 16) _ = _
                                    simp only [Act.put, List.setIfInBounds_toArray, List.set_cons_zero, List.set_cons_succ, i64_w, i32_w]
                                    rfl
                                  exact norm_ (by first | (simp only [putAll, Act.put, List.setIfInBounds_toArray, List.set_cons_zero, List.set_cons_succ]; done) | (simp only [putAll, Act.put, List.setIfInBounds_toArray, List.set_cons_zero, List.set_cons_succ]; rfl)) (hJ3_4_6 (v194) _ ⟨hHeld, (by (with_reducible repeat (first | apply Kd.R_alloc | apply Kd.R_drewN | apply Kd.R_drew)); exact Kd.R_mono HO195.out (fun _ hk => hk.2)), (by (with_reducible repeat (first | refine blk_drewN ?_ _ | refine blk_drew ?_ | refine blk_alloc ?_ _)); exact BK186.out), (by repeat (first | (with_reducible first | exact HB.out | apply below_alloc | apply pw_below_drewN | apply below_drew1 | refine below_set ?_ GE186.out) | exact HB.out))⟩)
                                · skip
                                  refine Kd.R_lit_step k81 _ 81 ?hg (N := 21) ?hd (xs := ([(⟨t196, t197, t198⟩ : S81), (⟨2, t199, (⟨#[]⟩ : ByteArray)⟩ : S81)] : List (S81))) (inner := [.int .i64 t196, .int .i64 t197, .string t198, .int .i64 2, .int .i64 t199, .string (⟨#[]⟩ : ByteArray)]) (ok := fun _ => True) (okp := fun _ => True) ?hr ?hp (fun _ hk => hk) trivial (Below.refl _ _) (Nat.le_refl _) (by simp) ?_; (case hd => rfl); (case hg => rfl); (case hr => first | (go_simp; done) | (go_simp; rfl)); (case hp => exact (Reps.c3 (show Kd.M k81 _ _ _ (⟨t196, t197, t198⟩ : S81) [.int .i64 t196, .int .i64 t197, .string t198] from (k81_mkM _ _ _ (⟨t196, t197, t198⟩ : S81) )) (Reps.c3 (show Kd.M k81 _ _ _ (⟨2, t199, (⟨#[]⟩ : ByteArray)⟩ : S81) [.int .i64 2, .int .i64 t199, .string (⟨#[]⟩ : ByteArray)] from (k81_mkM _ _ _ (⟨2, t199, (⟨#[]⟩ : ByteArray)⟩ : S81) )) (Reps.none _ _))))
                                  intro v201 w23 ho24 hb hg_ hnew_
                                  clear hg_ hnew_
                                  (first | rw [← Ny200.out] at ho24 | (simp only [Int.reduceToNat] at ho24; rw [← Ny200.out] at ho24))
                                  have n0_ := Aside0.mk (Kd.R_lower (Kd.R_newB ho24 (g := gb186) (o := .cells #[.int .i64 x187000_4, .int .i64 x187001_4, .string x187002_4] 81 (0, 0)) (by (with_reducible repeat (first | refine blk_drewN ?_ _ | refine blk_drew ?_ | refine blk_alloc ?_ _)); exact BK186.out)) (below_size (by repeat (first | (with_reducible first | exact HB.out | apply below_alloc | apply pw_below_drewN | apply below_drew1 | refine below_set ?_ GE186.out) | exact HB.out))))
                                  have n1_ := Aside0.mk (blk_below (g := gb186) (o := .cells #[.int .i64 x187000_4, .int .i64 x187001_4, .string x187002_4] 81 (0, 0)) (by (with_reducible repeat (first | refine blk_drewN ?_ _ | refine blk_drew ?_ | refine blk_alloc ?_ _)); exact BK186.out) hb)
                                  have n2_ := Aside0.mk (below_step (by repeat (first | (with_reducible first | exact HB.out | apply below_alloc | apply pw_below_drewN | apply below_drew1 | refine below_set ?_ GE186.out) | exact HB.out)) hb)
                                  clear BK186
                                  clear HB
                                  have HO202 := n0_
                                  have BK186 := n1_
                                  have HB := n2_
                                  clear n0_ n1_ n2_
                                  clear hb ho24
                                  refine hK.out _ _ ⟨(blk_cell BK186.out 0).trans rfl, (blk_cell BK186.out 1).trans rfl, (blk_cell BK186.out 2).trans rfl⟩ (fun hHeld => ?_)
                                  clear hK K
                                  refine norm_ (a' := ?_) ?_ ?_
                                  rotate_left
                                  · show Act.put _ (some 21) _ = _
                                    simp only [Act.put, List.setIfInBounds_toArray, List.set_cons_zero, List.set_cons_succ, i64_w, i32_w]
                                    rfl
                                  exact norm_ (by first | (simp only [putAll, Act.put, List.setIfInBounds_toArray, List.set_cons_zero, List.set_cons_succ]; done) | (simp only [putAll, Act.put, List.setIfInBounds_toArray, List.set_cons_zero, List.set_cons_succ]; rfl)) (hJ4_6_8 (v201) _ ⟨hHeld, (by (with_reducible repeat (first | apply Kd.R_alloc | apply Kd.R_drewN | apply Kd.R_drew)); exact Kd.R_mono HO202.out (fun _ hk => hk.2)), (by (with_reducible repeat (first | refine blk_drewN ?_ _ | refine blk_drew ?_ | refine blk_alloc ?_ _)); exact BK186.out), (by repeat (first | (with_reducible first | exact HB.out | apply below_alloc | apply pw_below_drewN | apply below_drew1 | refine below_set ?_ GE186.out) | exact HB.out))⟩)
                                · skip
                                  refine goes_ Tryd.func75 (by kernel_rfl) rfl #[.string (⟨#[101, 114, 114, 111, 114]⟩ : ByteArray)] (by rfl) rfl rfl (by (try simp only [List.map_toArray, List.map_cons, List.map_nil]); first | done | rfl | (simp only [List.length_drop, List.length_take]; rfl)) ?_
                                  with_reducible refine (impl_textVal.calls (⟨#[101, 114, 114, 111, 114]⟩ : ByteArray) t203 t204 t205 _ A15.out).mono ?_
                                  rintro e w23 ⟨rfl, hb⟩
                                  refine ⟨_, rfl, ?_⟩
                                  have n0_ := Aside0.mk (blk_below (g := gb186) (o := .cells #[.int .i64 x187000_4, .int .i64 x187001_4, .string x187002_4] 81 (0, 0)) (by (with_reducible repeat (first | refine blk_drewN ?_ _ | refine blk_drew ?_ | refine blk_alloc ?_ _)); exact BK186.out) hb)
                                  have n1_ := Aside0.mk (below_step (by repeat (first | (with_reducible first | exact HB.out | apply below_alloc | apply pw_below_drewN | apply below_drew1 | refine below_set ?_ GE186.out) | exact HB.out)) hb)
                                  clear BK186
                                  clear HB
                                  have BK186 := n0_
                                  have HB := n1_
                                  clear n0_ n1_
                                  (try clear hb)
                                  (try clear hb2)
                                  (try clear hk)
                                  (try clear hi)
                                  refine hK.out _ _ ⟨(blk_cell BK186.out 0).trans rfl, (blk_cell BK186.out 1).trans rfl, (blk_cell BK186.out 2).trans rfl⟩ (fun hHeld => ?_)
                                  clear hK K
                                  refine norm_ (a' := ?_) ?_ ?_
                                  rotate_left
                                  · show Act.put _ (some 22) _ = _
                                    simp only [Act.put, List.setIfInBounds_toArray, List.set_cons_zero, List.set_cons_succ, i64_w, i32_w]
                                    rfl
                                  exact norm_ (by first | (simp only [putAll, Act.put, List.setIfInBounds_toArray, List.set_cons_zero, List.set_cons_succ]; done) | (simp only [putAll, Act.put, List.setIfInBounds_toArray, List.set_cons_zero, List.set_cons_succ]; rfl)) (hJ4_6_9 () _ ⟨hHeld, (by (with_reducible repeat (first | refine blk_drewN ?_ _ | refine blk_drew ?_ | refine blk_alloc ?_ _)); exact BK186.out), (by repeat (first | (with_reducible first | exact HB.out | apply below_alloc | apply pw_below_drewN | apply below_drew1 | refine below_set ?_ GE186.out) | exact HB.out))⟩)
                            · skip
                              rintro v194 w24 ⟨hS_, h0_, h1_, h2_⟩
                              have n0_ : Aside0 (Kd.R k81 81 w24 w.heap.size (fun k_ => k_ ≠ gb186) v194 y193) := ⟨h0_⟩
                              have n1_ : Aside0 (w24.heap[gb186]? = some (.cells #[.int .i64 x187000_4, .int .i64 x187001_4, .string x187002_4] 81 (0, 0))) := ⟨h1_⟩
                              have n2_ : Aside0 (Below w.heap.size w w24) := ⟨h2_⟩
                              clear BK186
                              clear HB
                              clear h0_ h1_ h2_
                              have HO195 := n0_
                              have BK186 := n1_
                              have HB := n2_
                              clear n0_ n1_ n2_
                              have hHeld : w24.cell? ⟨gb186, 0, none⟩ = some (.int .i64 x187000_4) ∧ w24.cell? ⟨gb186, 1, none⟩ = some (.int .i64 x187001_4) ∧ w24.cell? ⟨gb186, 2, none⟩ = some (.string x187002_4) := hS_
                              refine norm_ (a' := ?_) ?_ ?_
                              rotate_left
                              · simp only [putAll, Act.put, List.setIfInBounds_toArray, List.set_cons_zero, List.set_cons_succ]
                                rfl
                              refine one_ (i := 6) (N := some 19) #[true, true, true, true, true, true, true, false, false, false, true, false, false, false, false, false] rfl rfl (one_of HT_.out (by kernel_rfl)) (by decide) (fun K hK => ?_)
                              refine goes_ Tryd.func76 (by kernel_rfl) rfl #[.bool a1] (by rfl) rfl rfl (by (try simp only [List.map_toArray, List.map_cons, List.map_nil]); first | done | rfl | (simp only [List.length_drop, List.length_take]; rfl)) ?_
                              with_reducible refine (impl_flag.calls a1 t199 _ A14.out).mono ?_
                              rintro e w' ⟨rfl, ⟨nd, rfl⟩⟩
                              refine ⟨_, rfl, ?_⟩
                              refine hK.out _ _ ⟨(blk_cell BK186.out 0).trans rfl, (blk_cell BK186.out 1).trans rfl, (blk_cell BK186.out 2).trans rfl⟩ (fun hHeld => ?_)
                              clear hK K
                              refine norm_ (a' := ?_) ?_ ?_
                              rotate_left
                              · show Act.put _ (some 19) _ = _
                                simp only [Act.put, List.setIfInBounds_toArray, List.set_cons_zero, List.set_cons_succ, i64_w, i32_w]
                                rfl
                              refine pure_ (i := 7) (N := some 20) (v := ?_) (a' := ?_) #[true, true, true, true, true, true, true, true, false, false, true, false, false, false, false, false] rfl rfl (any_of HT_.out (by kernel_rfl)) (fun _ _ _ h => h) (Or.inl ⟨by rfl, ?_⟩) ?_ ?_
                              rotate_left
                              · intro w'
                                go_simp
                                with_reducible rfl
                              rotate_left
                              · simp only [Act.put, List.setIfInBounds_toArray, List.set_cons_zero, List.set_cons_succ, i64_w, i32_w]
                                rfl
                              exact norm_ (by first | (simp only [putAll, Act.put, List.setIfInBounds_toArray, List.set_cons_zero, List.set_cons_succ]; done) | (simp only [putAll, Act.put, List.setIfInBounds_toArray, List.set_cons_zero, List.set_cons_succ]; rfl)) (hJ3_4_6 (v194) _ ⟨hHeld, (by (with_reducible repeat (first | apply Kd.R_alloc | apply Kd.R_drewN | apply Kd.R_drew)); exact HO195.out), (by (with_reducible repeat (first | refine blk_drewN ?_ _ | refine blk_drew ?_ | refine blk_alloc ?_ _)); exact BK186.out), (by repeat (first | (with_reducible first | exact HB.out | apply below_alloc | apply pw_below_drewN | apply below_drew1 | refine below_set ?_ GE186.out) | exact HB.out))⟩)
                          · skip
                            rintro _ w23 ⟨hS_, h0_, h1_⟩
                            have n0_ : Aside0 (w23.heap[gb186]? = some (.cells #[.int .i64 x187000_4, .int .i64 x187001_4, .string x187002_4] 81 (0, 0))) := ⟨h0_⟩
                            have n1_ : Aside0 (Below w.heap.size w w23) := ⟨h1_⟩
                            clear BK186
                            clear HB
                            clear h0_ h1_
                            have BK186 := n0_
                            have HB := n1_
                            clear n0_ n1_
                            have hHeld : w23.cell? ⟨gb186, 0, none⟩ = some (.int .i64 x187000_4) ∧ w23.cell? ⟨gb186, 1, none⟩ = some (.int .i64 x187001_4) ∧ w23.cell? ⟨gb186, 2, none⟩ = some (.string x187002_4) := hS_
                            refine norm_ (a' := ?_) ?_ ?_
                            rotate_left
                            · simp only [putAll, Act.put, List.setIfInBounds_toArray, List.set_cons_zero, List.set_cons_succ]
                              rfl
                            refine three_ (i := 3) (j := 8) (k := 11) (Ni := some 16) (Nj := some 21) (Nk := some 24) #[true, true, true, true, true, true, true, true, false, true, true, false, false, false, false, false] #[true, true, true, false, true, true, true, true, true, true, true, false, false, false, false, false] #[true, true, true, false, true, true, true, true, false, true, true, true, false, false, false, false] rfl rfl rfl rfl rfl rfl (three_of HT_.out (by kernel_rfl)) (by decide) (by decide) (by decide) (fun K hK => ?_) (fun K hK => ?_) (fun K hK => ?_)
                            · skip
                              refine Kd.R_lit_step k81 _ 81 ?hg (N := 16) ?hd (xs := ([(⟨t187, t188, t189⟩ : S81), (⟨t190, t191, t192⟩ : S81)] : List (S81))) (inner := [.int .i64 t187, .int .i64 t188, .string t189, .int .i64 t190, .int .i64 t191, .string t192]) (ok := fun _ => True) (okp := fun _ => True) ?hr ?hp (fun _ hk => hk) trivial (Below.refl _ _) (Nat.le_refl _) (by simp) ?_; (case hd => rfl); (case hg => rfl); (case hr => first | (go_simp; done) | (go_simp; rfl)); (case hp => exact (Reps.c3 (show Kd.M k81 _ _ _ (⟨t187, t188, t189⟩ : S81) [.int .i64 t187, .int .i64 t188, .string t189] from (k81_mkM _ _ _ (⟨t187, t188, t189⟩ : S81) )) (Reps.c3 (show Kd.M k81 _ _ _ (⟨t190, t191, t192⟩ : S81) [.int .i64 t190, .int .i64 t191, .string t192] from (k81_mkM _ _ _ (⟨t190, t191, t192⟩ : S81) )) (Reps.none _ _))))
                              intro v194 w24 ho25 hb hg_ hnew_
                              clear hg_ hnew_
                              (first | rw [← Ny193.out] at ho25 | (simp only [Int.reduceToNat] at ho25; rw [← Ny193.out] at ho25))
                              have n0_ := Aside0.mk (Kd.R_lower (Kd.R_newB ho25 (g := gb186) (o := .cells #[.int .i64 x187000_4, .int .i64 x187001_4, .string x187002_4] 81 (0, 0)) (by (with_reducible repeat (first | refine blk_drewN ?_ _ | refine blk_drew ?_ | refine blk_alloc ?_ _)); exact BK186.out)) (below_size (by repeat (first | (with_reducible first | exact HB.out | apply below_alloc | apply pw_below_drewN | apply below_drew1 | refine below_set ?_ GE186.out) | exact HB.out))))
                              have n1_ := Aside0.mk (blk_below (g := gb186) (o := .cells #[.int .i64 x187000_4, .int .i64 x187001_4, .string x187002_4] 81 (0, 0)) (by (with_reducible repeat (first | refine blk_drewN ?_ _ | refine blk_drew ?_ | refine blk_alloc ?_ _)); exact BK186.out) hb)
                              have n2_ := Aside0.mk (below_step (by repeat (first | (with_reducible first | exact HB.out | apply below_alloc | apply pw_below_drewN | apply below_drew1 | refine below_set ?_ GE186.out) | exact HB.out)) hb)
                              clear BK186
                              clear HB
                              have HO195 := n0_
                              have BK186 := n1_
                              have HB := n2_
                              clear n0_ n1_ n2_
                              clear hb ho25
                              refine hK.out _ _ ⟨(blk_cell BK186.out 0).trans rfl, (blk_cell BK186.out 1).trans rfl, (blk_cell BK186.out 2).trans rfl⟩ (fun hHeld => ?_)
                              clear hK K
                              refine norm_ (a' := ?_) ?_ ?_
                              rotate_left
                              · show Act.put _ (some 16) _ = _
                                simp only [Act.put, List.setIfInBounds_toArray, List.set_cons_zero, List.set_cons_succ, i64_w, i32_w]
                                rfl
                              exact norm_ (by first | (simp only [putAll, Act.put, List.setIfInBounds_toArray, List.set_cons_zero, List.set_cons_succ]; done) | (simp only [putAll, Act.put, List.setIfInBounds_toArray, List.set_cons_zero, List.set_cons_succ]; rfl)) (hJ3_4_6_9 (v194) _ ⟨hHeld, (by (with_reducible repeat (first | apply Kd.R_alloc | apply Kd.R_drewN | apply Kd.R_drew)); exact Kd.R_mono HO195.out (fun _ hk => hk.2)), (by (with_reducible repeat (first | refine blk_drewN ?_ _ | refine blk_drew ?_ | refine blk_alloc ?_ _)); exact BK186.out), (by repeat (first | (with_reducible first | exact HB.out | apply below_alloc | apply pw_below_drewN | apply below_drew1 | refine below_set ?_ GE186.out) | exact HB.out))⟩)
                            · skip
                              refine Kd.R_lit_step k81 _ 81 ?hg (N := 21) ?hd (xs := ([(⟨t196, t197, t198⟩ : S81), (⟨2, t199, (⟨#[]⟩ : ByteArray)⟩ : S81)] : List (S81))) (inner := [.int .i64 t196, .int .i64 t197, .string t198, .int .i64 2, .int .i64 t199, .string (⟨#[]⟩ : ByteArray)]) (ok := fun _ => True) (okp := fun _ => True) ?hr ?hp (fun _ hk => hk) trivial (Below.refl _ _) (Nat.le_refl _) (by simp) ?_; (case hd => rfl); (case hg => rfl); (case hr => first | (go_simp; done) | (go_simp; rfl)); (case hp => exact (Reps.c3 (show Kd.M k81 _ _ _ (⟨t196, t197, t198⟩ : S81) [.int .i64 t196, .int .i64 t197, .string t198] from (k81_mkM _ _ _ (⟨t196, t197, t198⟩ : S81) )) (Reps.c3 (show Kd.M k81 _ _ _ (⟨2, t199, (⟨#[]⟩ : ByteArray)⟩ : S81) [.int .i64 2, .int .i64 t199, .string (⟨#[]⟩ : ByteArray)] from (k81_mkM _ _ _ (⟨2, t199, (⟨#[]⟩ : ByteArray)⟩ : S81) )) (Reps.none _ _))))
                              intro v201 w24 ho25 hb hg_ hnew_
                              clear hg_ hnew_
                              (first | rw [← Ny200.out] at ho25 | (simp only [Int.reduceToNat] at ho25; rw [← Ny200.out] at ho25))
                              have n0_ := Aside0.mk (Kd.R_lower (Kd.R_newB ho25 (g := gb186) (o := .cells #[.int .i64 x187000_4, .int .i64 x187001_4, .string x187002_4] 81 (0, 0)) (by (with_reducible repeat (first | refine blk_drewN ?_ _ | refine blk_drew ?_ | refine blk_alloc ?_ _)); exact BK186.out)) (below_size (by repeat (first | (with_reducible first | exact HB.out | apply below_alloc | apply pw_below_drewN | apply below_drew1 | refine below_set ?_ GE186.out) | exact HB.out))))
                              have n1_ := Aside0.mk (blk_below (g := gb186) (o := .cells #[.int .i64 x187000_4, .int .i64 x187001_4, .string x187002_4] 81 (0, 0)) (by (with_reducible repeat (first | refine blk_drewN ?_ _ | refine blk_drew ?_ | refine blk_alloc ?_ _)); exact BK186.out) hb)
                              have n2_ := Aside0.mk (below_step (by repeat (first | (with_reducible first | exact HB.out | apply below_alloc | apply pw_below_drewN | apply below_drew1 | refine below_set ?_ GE186.out) | exact HB.out)) hb)
                              clear BK186
                              clear HB
                              have HO202 := n0_
                              have BK186 := n1_
                              have HB := n2_
                              clear n0_ n1_ n2_
                              clear hb ho25
                              refine hK.out _ _ ⟨(blk_cell BK186.out 0).trans rfl, (blk_cell BK186.out 1).trans rfl, (blk_cell BK186.out 2).trans rfl⟩ (fun hHeld => ?_)
                              clear hK K
                              refine norm_ (a' := ?_) ?_ ?_
                              rotate_left
                              · show Act.put _ (some 21) _ = _
                                simp only [Act.put, List.setIfInBounds_toArray, List.set_cons_zero, List.set_cons_succ, i64_w, i32_w]
                                rfl
                              exact norm_ (by first | (simp only [putAll, Act.put, List.setIfInBounds_toArray, List.set_cons_zero, List.set_cons_succ]; done) | (simp only [putAll, Act.put, List.setIfInBounds_toArray, List.set_cons_zero, List.set_cons_succ]; rfl)) (hJ4_6_8_9 (v201) _ ⟨hHeld, (by (with_reducible repeat (first | apply Kd.R_alloc | apply Kd.R_drewN | apply Kd.R_drew)); exact Kd.R_mono HO202.out (fun _ hk => hk.2)), (by (with_reducible repeat (first | refine blk_drewN ?_ _ | refine blk_drew ?_ | refine blk_alloc ?_ _)); exact BK186.out), (by repeat (first | (with_reducible first | exact HB.out | apply below_alloc | apply pw_below_drewN | apply below_drew1 | refine below_set ?_ GE186.out) | exact HB.out))⟩)
                            · skip
                              refine Kd.R_lit_step k81 _ 81 ?hg (N := 24) ?hd (xs := ([(⟨t203, t204, t205⟩ : S81), (⟨x187000_4, x187001_4, x187002_4⟩ : S81)] : List (S81))) (inner := [.int .i64 t203, .int .i64 t204, .string t205, .int .i64 x187000_4, .int .i64 x187001_4, .string x187002_4]) (ok := fun _ => True) (okp := fun _ => True) ?hr ?hp (fun _ hk => hk) trivial (Below.refl _ _) (Nat.le_refl _) (by simp) ?_; (case hd => rfl); (case hg => rfl); (case hr => first | (go_simp; done) | (go_simp; rfl)); (case hp => exact (Reps.c3 (show Kd.M k81 _ _ _ (⟨t203, t204, t205⟩ : S81) [.int .i64 t203, .int .i64 t204, .string t205] from (k81_mkM _ _ _ (⟨t203, t204, t205⟩ : S81) )) (Reps.c3 (show Kd.M k81 _ _ _ (⟨x187000_4, x187001_4, x187002_4⟩ : S81) [.int .i64 x187000_4, .int .i64 x187001_4, .string x187002_4] from (k81_mkM _ _ _ (⟨x187000_4, x187001_4, x187002_4⟩ : S81) )) (Reps.none _ _))))
                              intro v207 w24 ho25 hb hg_ hnew_
                              clear hg_ hnew_
                              (first | rw [← Ny206.out] at ho25 | (simp only [Int.reduceToNat] at ho25; rw [← Ny206.out] at ho25))
                              have n0_ := Aside0.mk (Kd.R_lower (Kd.R_newB ho25 (g := gb186) (o := .cells #[.int .i64 x187000_4, .int .i64 x187001_4, .string x187002_4] 81 (0, 0)) (by (with_reducible repeat (first | refine blk_drewN ?_ _ | refine blk_drew ?_ | refine blk_alloc ?_ _)); exact BK186.out)) (below_size (by repeat (first | (with_reducible first | exact HB.out | apply below_alloc | apply pw_below_drewN | apply below_drew1 | refine below_set ?_ GE186.out) | exact HB.out))))
                              have n1_ := Aside0.mk (blk_below (g := gb186) (o := .cells #[.int .i64 x187000_4, .int .i64 x187001_4, .string x187002_4] 81 (0, 0)) (by (with_reducible repeat (first | refine blk_drewN ?_ _ | refine blk_drew ?_ | refine blk_alloc ?_ _)); exact BK186.out) hb)
                              have n2_ := Aside0.mk (below_step (by repeat (first | (with_reducible first | exact HB.out | apply below_alloc | apply pw_below_drewN | apply below_drew1 | refine below_set ?_ GE186.out) | exact HB.out)) hb)
                              clear BK186
                              clear HB
                              have HO208 := n0_
                              have BK186 := n1_
                              have HB := n2_
                              clear n0_ n1_ n2_
                              clear hb ho25
                              refine hK.out _ _ ⟨(blk_cell BK186.out 0).trans rfl, (blk_cell BK186.out 1).trans rfl, (blk_cell BK186.out 2).trans rfl⟩ (fun hHeld => ?_)
                              clear hK K
                              refine norm_ (a' := ?_) ?_ ?_
                              rotate_left
                              · show Act.put _ (some 24) _ = _
                                simp only [Act.put, List.setIfInBounds_toArray, List.set_cons_zero, List.set_cons_succ, i64_w, i32_w]
                                rfl
                              exact norm_ (by first | (simp only [putAll, Act.put, List.setIfInBounds_toArray, List.set_cons_zero, List.set_cons_succ]; done) | (simp only [putAll, Act.put, List.setIfInBounds_toArray, List.set_cons_zero, List.set_cons_succ]; rfl)) (hJ4_6_9_11 (v207) _ ⟨hHeld, (by (with_reducible repeat (first | apply Kd.R_alloc | apply Kd.R_drewN | apply Kd.R_drew)); exact Kd.R_mono HO208.out (fun _ hk => hk.2)), (by (with_reducible repeat (first | refine blk_drewN ?_ _ | refine blk_drew ?_ | refine blk_alloc ?_ _)); exact BK186.out), (by repeat (first | (with_reducible first | exact HB.out | apply below_alloc | apply pw_below_drewN | apply below_drew1 | refine below_set ?_ GE186.out) | exact HB.out))⟩)
                        · skip
                          rintro v201 w24 ⟨hS_, h0_, h1_, h2_⟩
                          have n0_ : Aside0 (Kd.R k81 81 w24 w.heap.size (fun k_ => k_ ≠ gb186) v201 y200) := ⟨h0_⟩
                          have n1_ : Aside0 (w24.heap[gb186]? = some (.cells #[.int .i64 x187000_4, .int .i64 x187001_4, .string x187002_4] 81 (0, 0))) := ⟨h1_⟩
                          have n2_ : Aside0 (Below w.heap.size w w24) := ⟨h2_⟩
                          clear BK186
                          clear HB
                          clear h0_ h1_ h2_
                          have HO202 := n0_
                          have BK186 := n1_
                          have HB := n2_
                          clear n0_ n1_ n2_
                          have hHeld : w24.cell? ⟨gb186, 0, none⟩ = some (.int .i64 x187000_4) ∧ w24.cell? ⟨gb186, 1, none⟩ = some (.int .i64 x187001_4) ∧ w24.cell? ⟨gb186, 2, none⟩ = some (.string x187002_4) := hS_
                          refine norm_ (a' := ?_) ?_ ?_
                          rotate_left
                          · simp only [putAll, Act.put, List.setIfInBounds_toArray, List.set_cons_zero, List.set_cons_succ]
                            rfl
                          refine two_ (i := 3) (j := 9) (Ni := some 16) (Nj := some 22) #[true, true, true, true, true, true, true, true, true, false, true, false, false, false, false, false] #[true, true, true, false, true, true, true, true, true, true, true, false, false, false, false, false] rfl rfl rfl rfl (two_of HT_.out (by kernel_rfl)) (by decide) (by decide) (fun K hK => ?_) (fun K hK => ?_)
                          · skip
                            refine Kd.R_lit_step k81 _ 81 ?hg (N := 16) ?hd (xs := ([(⟨t187, t188, t189⟩ : S81), (⟨t190, t191, t192⟩ : S81)] : List (S81))) (inner := [.int .i64 t187, .int .i64 t188, .string t189, .int .i64 t190, .int .i64 t191, .string t192]) (ok := fun _ => True) (okp := fun _ => True) ?hr ?hp (fun _ hk => hk) trivial (Below.refl _ _) (Nat.le_refl _) (by simp) ?_; (case hd => rfl); (case hg => rfl); (case hr => first | (go_simp; done) | (go_simp; rfl)); (case hp => exact (Reps.c3 (show Kd.M k81 _ _ _ (⟨t187, t188, t189⟩ : S81) [.int .i64 t187, .int .i64 t188, .string t189] from (k81_mkM _ _ _ (⟨t187, t188, t189⟩ : S81) )) (Reps.c3 (show Kd.M k81 _ _ _ (⟨t190, t191, t192⟩ : S81) [.int .i64 t190, .int .i64 t191, .string t192] from (k81_mkM _ _ _ (⟨t190, t191, t192⟩ : S81) )) (Reps.none _ _))))
                            intro v194 w25 ho26 hb hg_ hnew_
                            clear hg_ hnew_
                            (first | rw [← Ny193.out] at ho26 | (simp only [Int.reduceToNat] at ho26; rw [← Ny193.out] at ho26))
                            have n0_ := Aside0.mk (Kd.R_elder' (by (with_reducible repeat (first | apply Kd.R_alloc | apply Kd.R_drewN | apply Kd.R_drew)); exact HO202.out) (Kd.R_base ho26) hb)
                            have n1_ := Aside0.mk (Kd.R_lower (Kd.R_newB (Kd.R_new' ho26 (Kd.R_lt (by (with_reducible repeat (first | apply Kd.R_alloc | apply Kd.R_drewN | apply Kd.R_drew)); exact HO202.out))) (g := gb186) (o := .cells #[.int .i64 x187000_4, .int .i64 x187001_4, .string x187002_4] 81 (0, 0)) (by (with_reducible repeat (first | refine blk_drewN ?_ _ | refine blk_drew ?_ | refine blk_alloc ?_ _)); exact BK186.out)) (below_size (by repeat (first | (with_reducible first | exact HB.out | apply below_alloc | apply pw_below_drewN | apply below_drew1 | refine below_set ?_ GE186.out) | exact HB.out))))
                            have n2_ := Aside0.mk (blk_below (g := gb186) (o := .cells #[.int .i64 x187000_4, .int .i64 x187001_4, .string x187002_4] 81 (0, 0)) (by (with_reducible repeat (first | refine blk_drewN ?_ _ | refine blk_drew ?_ | refine blk_alloc ?_ _)); exact BK186.out) hb)
                            have n3_ := Aside0.mk (below_step (by repeat (first | (with_reducible first | exact HB.out | apply below_alloc | apply pw_below_drewN | apply below_drew1 | refine below_set ?_ GE186.out) | exact HB.out)) hb)
                            clear HO202
                            clear BK186
                            clear HB
                            have HO202 := n0_
                            have HO195 := n1_
                            have BK186 := n2_
                            have HB := n3_
                            clear n0_ n1_ n2_ n3_
                            clear hb ho26
                            refine hK.out _ _ ⟨(blk_cell BK186.out 0).trans rfl, (blk_cell BK186.out 1).trans rfl, (blk_cell BK186.out 2).trans rfl⟩ (fun hHeld => ?_)
                            clear hK K
                            refine norm_ (a' := ?_) ?_ ?_
                            rotate_left
                            · show Act.put _ (some 16) _ = _
                              simp only [Act.put, List.setIfInBounds_toArray, List.set_cons_zero, List.set_cons_succ, i64_w, i32_w]
                              rfl
                            exact norm_ (by first | (simp only [putAll, Act.put, List.setIfInBounds_toArray, List.set_cons_zero, List.set_cons_succ]; done) | (simp only [putAll, Act.put, List.setIfInBounds_toArray, List.set_cons_zero, List.set_cons_succ]; rfl)) (hJ3_4_6_8 (v194, v201) _ ⟨hHeld, (by (with_reducible repeat (first | apply Kd.R_alloc | apply Kd.R_drewN | apply Kd.R_drew)); exact Kd.R_mono HO195.out (fun _ hk => ⟨hk.1.2, hk.2⟩)), (by (with_reducible repeat (first | apply Kd.R_alloc | apply Kd.R_drewN | apply Kd.R_drew)); exact Kd.R_mono HO202.out (fun _ hk => ⟨hk.2, hk.1⟩)), (by (with_reducible repeat (first | refine blk_drewN ?_ _ | refine blk_drew ?_ | refine blk_alloc ?_ _)); exact BK186.out), (by repeat (first | (with_reducible first | exact HB.out | apply below_alloc | apply pw_below_drewN | apply below_drew1 | refine below_set ?_ GE186.out) | exact HB.out))⟩)
                          · skip
                            refine goes_ Tryd.func75 (by kernel_rfl) rfl #[.string (⟨#[101, 114, 114, 111, 114]⟩ : ByteArray)] (by rfl) rfl rfl (by (try simp only [List.map_toArray, List.map_cons, List.map_nil]); first | done | rfl | (simp only [List.length_drop, List.length_take]; rfl)) ?_
                            with_reducible refine (impl_textVal.calls (⟨#[101, 114, 114, 111, 114]⟩ : ByteArray) t203 t204 t205 _ A15.out).mono ?_
                            rintro e w25 ⟨rfl, hb⟩
                            refine ⟨_, rfl, ?_⟩
                            have n0_ := Aside0.mk (Kd.R_below (by (with_reducible repeat (first | apply Kd.R_alloc | apply Kd.R_drewN | apply Kd.R_drew)); exact HO202.out) hb)
                            have n1_ := Aside0.mk (blk_below (g := gb186) (o := .cells #[.int .i64 x187000_4, .int .i64 x187001_4, .string x187002_4] 81 (0, 0)) (by (with_reducible repeat (first | refine blk_drewN ?_ _ | refine blk_drew ?_ | refine blk_alloc ?_ _)); exact BK186.out) hb)
                            have n2_ := Aside0.mk (below_step (by repeat (first | (with_reducible first | exact HB.out | apply below_alloc | apply pw_below_drewN | apply below_drew1 | refine below_set ?_ GE186.out) | exact HB.out)) hb)
                            clear HO202
                            clear BK186
                            clear HB
                            have HO202 := n0_
                            have BK186 := n1_
                            have HB := n2_
                            clear n0_ n1_ n2_
                            (try clear hb)
                            (try clear hb2)
                            (try clear hk)
                            (try clear hi)
                            refine hK.out _ _ ⟨(blk_cell BK186.out 0).trans rfl, (blk_cell BK186.out 1).trans rfl, (blk_cell BK186.out 2).trans rfl⟩ (fun hHeld => ?_)
                            clear hK K
                            refine norm_ (a' := ?_) ?_ ?_
                            rotate_left
                            · show Act.put _ (some 22) _ = _
                              simp only [Act.put, List.setIfInBounds_toArray, List.set_cons_zero, List.set_cons_succ, i64_w, i32_w]
                              rfl
                            exact norm_ (by first | (simp only [putAll, Act.put, List.setIfInBounds_toArray, List.set_cons_zero, List.set_cons_succ]; done) | (simp only [putAll, Act.put, List.setIfInBounds_toArray, List.set_cons_zero, List.set_cons_succ]; rfl)) (hJ4_6_8_9 (v201) _ ⟨hHeld, (by (with_reducible repeat (first | apply Kd.R_alloc | apply Kd.R_drewN | apply Kd.R_drew)); exact HO202.out), (by (with_reducible repeat (first | refine blk_drewN ?_ _ | refine blk_drew ?_ | refine blk_alloc ?_ _)); exact BK186.out), (by repeat (first | (with_reducible first | exact HB.out | apply below_alloc | apply pw_below_drewN | apply below_drew1 | refine below_set ?_ GE186.out) | exact HB.out))⟩)
                      · skip
                        rintro v194 w24 ⟨hS_, h0_, h1_, h2_⟩
                        have n0_ : Aside0 (Kd.R k81 81 w24 w.heap.size (fun k_ => k_ ≠ gb186) v194 y193) := ⟨h0_⟩
                        have n1_ : Aside0 (w24.heap[gb186]? = some (.cells #[.int .i64 x187000_4, .int .i64 x187001_4, .string x187002_4] 81 (0, 0))) := ⟨h1_⟩
                        have n2_ : Aside0 (Below w.heap.size w w24) := ⟨h2_⟩
                        clear BK186
                        clear HB
                        clear h0_ h1_ h2_
                        have HO195 := n0_
                        have BK186 := n1_
                        have HB := n2_
                        clear n0_ n1_ n2_
                        have hHeld : w24.cell? ⟨gb186, 0, none⟩ = some (.int .i64 x187000_4) ∧ w24.cell? ⟨gb186, 1, none⟩ = some (.int .i64 x187001_4) ∧ w24.cell? ⟨gb186, 2, none⟩ = some (.string x187002_4) := hS_
                        refine norm_ (a' := ?_) ?_ ?_
                        rotate_left
                        · simp only [putAll, Act.put, List.setIfInBounds_toArray, List.set_cons_zero, List.set_cons_succ]
                          rfl
                        refine two_ (i := 8) (j := 9) (Ni := some 21) (Nj := some 22) #[true, true, true, true, true, true, true, true, true, false, true, false, false, false, false, false] #[true, true, true, true, true, true, true, true, false, true, true, false, false, false, false, false] rfl rfl rfl rfl (two_of HT_.out (by kernel_rfl)) (by decide) (by decide) (fun K hK => ?_) (fun K hK => ?_)
                        · skip
                          refine Kd.R_lit_step k81 _ 81 ?hg (N := 21) ?hd (xs := ([(⟨t196, t197, t198⟩ : S81), (⟨2, t199, (⟨#[]⟩ : ByteArray)⟩ : S81)] : List (S81))) (inner := [.int .i64 t196, .int .i64 t197, .string t198, .int .i64 2, .int .i64 t199, .string (⟨#[]⟩ : ByteArray)]) (ok := fun _ => True) (okp := fun _ => True) ?hr ?hp (fun _ hk => hk) trivial (Below.refl _ _) (Nat.le_refl _) (by simp) ?_; (case hd => rfl); (case hg => rfl); (case hr => first | (go_simp; done) | (go_simp; rfl)); (case hp => exact (Reps.c3 (show Kd.M k81 _ _ _ (⟨t196, t197, t198⟩ : S81) [.int .i64 t196, .int .i64 t197, .string t198] from (k81_mkM _ _ _ (⟨t196, t197, t198⟩ : S81) )) (Reps.c3 (show Kd.M k81 _ _ _ (⟨2, t199, (⟨#[]⟩ : ByteArray)⟩ : S81) [.int .i64 2, .int .i64 t199, .string (⟨#[]⟩ : ByteArray)] from (k81_mkM _ _ _ (⟨2, t199, (⟨#[]⟩ : ByteArray)⟩ : S81) )) (Reps.none _ _))))
                          intro v201 w25 ho26 hb hg_ hnew_
                          clear hg_ hnew_
                          (first | rw [← Ny200.out] at ho26 | (simp only [Int.reduceToNat] at ho26; rw [← Ny200.out] at ho26))
                          have n0_ := Aside0.mk (Kd.R_elder' (by (with_reducible repeat (first | apply Kd.R_alloc | apply Kd.R_drewN | apply Kd.R_drew)); exact HO195.out) (Kd.R_base ho26) hb)
                          have n1_ := Aside0.mk (Kd.R_lower (Kd.R_newB (Kd.R_new' ho26 (Kd.R_lt (by (with_reducible repeat (first | apply Kd.R_alloc | apply Kd.R_drewN | apply Kd.R_drew)); exact HO195.out))) (g := gb186) (o := .cells #[.int .i64 x187000_4, .int .i64 x187001_4, .string x187002_4] 81 (0, 0)) (by (with_reducible repeat (first | refine blk_drewN ?_ _ | refine blk_drew ?_ | refine blk_alloc ?_ _)); exact BK186.out)) (below_size (by repeat (first | (with_reducible first | exact HB.out | apply below_alloc | apply pw_below_drewN | apply below_drew1 | refine below_set ?_ GE186.out) | exact HB.out))))
                          have n2_ := Aside0.mk (blk_below (g := gb186) (o := .cells #[.int .i64 x187000_4, .int .i64 x187001_4, .string x187002_4] 81 (0, 0)) (by (with_reducible repeat (first | refine blk_drewN ?_ _ | refine blk_drew ?_ | refine blk_alloc ?_ _)); exact BK186.out) hb)
                          have n3_ := Aside0.mk (below_step (by repeat (first | (with_reducible first | exact HB.out | apply below_alloc | apply pw_below_drewN | apply below_drew1 | refine below_set ?_ GE186.out) | exact HB.out)) hb)
                          clear HO195
                          clear BK186
                          clear HB
                          have HO195 := n0_
                          have HO202 := n1_
                          have BK186 := n2_
                          have HB := n3_
                          clear n0_ n1_ n2_ n3_
                          clear hb ho26
                          refine hK.out _ _ ⟨(blk_cell BK186.out 0).trans rfl, (blk_cell BK186.out 1).trans rfl, (blk_cell BK186.out 2).trans rfl⟩ (fun hHeld => ?_)
                          clear hK K
                          refine norm_ (a' := ?_) ?_ ?_
                          rotate_left
                          · show Act.put _ (some 21) _ = _
                            simp only [Act.put, List.setIfInBounds_toArray, List.set_cons_zero, List.set_cons_succ, i64_w, i32_w]
                            rfl
                          exact norm_ (by first | (simp only [putAll, Act.put, List.setIfInBounds_toArray, List.set_cons_zero, List.set_cons_succ]; done) | (simp only [putAll, Act.put, List.setIfInBounds_toArray, List.set_cons_zero, List.set_cons_succ]; rfl)) (hJ3_4_6_8 (v194, v201) _ ⟨hHeld, (by (with_reducible repeat (first | apply Kd.R_alloc | apply Kd.R_drewN | apply Kd.R_drew)); exact Kd.R_mono HO195.out (fun _ hk => ⟨hk.2, hk.1⟩)), (by (with_reducible repeat (first | apply Kd.R_alloc | apply Kd.R_drewN | apply Kd.R_drew)); exact Kd.R_mono HO202.out (fun _ hk => ⟨hk.1.2, hk.2⟩)), (by (with_reducible repeat (first | refine blk_drewN ?_ _ | refine blk_drew ?_ | refine blk_alloc ?_ _)); exact BK186.out), (by repeat (first | (with_reducible first | exact HB.out | apply below_alloc | apply pw_below_drewN | apply below_drew1 | refine below_set ?_ GE186.out) | exact HB.out))⟩)
                        · skip
                          refine goes_ Tryd.func75 (by kernel_rfl) rfl #[.string (⟨#[101, 114, 114, 111, 114]⟩ : ByteArray)] (by rfl) rfl rfl (by (try simp only [List.map_toArray, List.map_cons, List.map_nil]); first | done | rfl | (simp only [List.length_drop, List.length_take]; rfl)) ?_
                          with_reducible refine (impl_textVal.calls (⟨#[101, 114, 114, 111, 114]⟩ : ByteArray) t203 t204 t205 _ A15.out).mono ?_
                          rintro e w25 ⟨rfl, hb⟩
                          refine ⟨_, rfl, ?_⟩
                          have n0_ := Aside0.mk (Kd.R_below (by (with_reducible repeat (first | apply Kd.R_alloc | apply Kd.R_drewN | apply Kd.R_drew)); exact HO195.out) hb)
                          have n1_ := Aside0.mk (blk_below (g := gb186) (o := .cells #[.int .i64 x187000_4, .int .i64 x187001_4, .string x187002_4] 81 (0, 0)) (by (with_reducible repeat (first | refine blk_drewN ?_ _ | refine blk_drew ?_ | refine blk_alloc ?_ _)); exact BK186.out) hb)
                          have n2_ := Aside0.mk (below_step (by repeat (first | (with_reducible first | exact HB.out | apply below_alloc | apply pw_below_drewN | apply below_drew1 | refine below_set ?_ GE186.out) | exact HB.out)) hb)
                          clear HO195
                          clear BK186
                          clear HB
                          have HO195 := n0_
                          have BK186 := n1_
                          have HB := n2_
                          clear n0_ n1_ n2_
                          (try clear hb)
                          (try clear hb2)
                          (try clear hk)
                          (try clear hi)
                          refine hK.out _ _ ⟨(blk_cell BK186.out 0).trans rfl, (blk_cell BK186.out 1).trans rfl, (blk_cell BK186.out 2).trans rfl⟩ (fun hHeld => ?_)
                          clear hK K
                          refine norm_ (a' := ?_) ?_ ?_
                          rotate_left
                          · show Act.put _ (some 22) _ = _
                            simp only [Act.put, List.setIfInBounds_toArray, List.set_cons_zero, List.set_cons_succ, i64_w, i32_w]
                            rfl
                          exact norm_ (by first | (simp only [putAll, Act.put, List.setIfInBounds_toArray, List.set_cons_zero, List.set_cons_succ]; done) | (simp only [putAll, Act.put, List.setIfInBounds_toArray, List.set_cons_zero, List.set_cons_succ]; rfl)) (hJ3_4_6_9 (v194) _ ⟨hHeld, (by (with_reducible repeat (first | apply Kd.R_alloc | apply Kd.R_drewN | apply Kd.R_drew)); exact HO195.out), (by (with_reducible repeat (first | refine blk_drewN ?_ _ | refine blk_drew ?_ | refine blk_alloc ?_ _)); exact BK186.out), (by repeat (first | (with_reducible first | exact HB.out | apply below_alloc | apply pw_below_drewN | apply below_drew1 | refine below_set ?_ GE186.out) | exact HB.out))⟩)
                    · skip
                      rintro v207 w25 ⟨hS_, h0_, h1_, h2_⟩
                      have n0_ : Aside0 (Kd.R k81 81 w25 w.heap.size (fun k_ => k_ ≠ gb186) v207 y206) := ⟨h0_⟩
                      have n1_ : Aside0 (w25.heap[gb186]? = some (.cells #[.int .i64 x187000_4, .int .i64 x187001_4, .string x187002_4] 81 (0, 0))) := ⟨h1_⟩
                      have n2_ : Aside0 (Below w.heap.size w w25) := ⟨h2_⟩
                      clear BK186
                      clear HB
                      clear h0_ h1_ h2_
                      have HO208 := n0_
                      have BK186 := n1_
                      have HB := n2_
                      clear n0_ n1_ n2_
                      have hHeld : w25.cell? ⟨gb186, 0, none⟩ = some (.int .i64 x187000_4) ∧ w25.cell? ⟨gb186, 1, none⟩ = some (.int .i64 x187001_4) ∧ w25.cell? ⟨gb186, 2, none⟩ = some (.string x187002_4) := hS_
                      refine norm_ (a' := ?_) ?_ ?_
                      rotate_left
                      · simp only [putAll, Act.put, List.setIfInBounds_toArray, List.set_cons_zero, List.set_cons_succ]
                        rfl
                      refine two_ (i := 3) (j := 8) (Ni := some 16) (Nj := some 21) #[true, true, true, true, true, true, true, true, false, true, true, true, false, false, false, false] #[true, true, true, false, true, true, true, true, true, true, true, true, false, false, false, false] rfl rfl rfl rfl (two_of HT_.out (by kernel_rfl)) (by decide) (by decide) (fun K hK => ?_) (fun K hK => ?_)
                      · skip
                        refine Kd.R_lit_step k81 _ 81 ?hg (N := 16) ?hd (xs := ([(⟨t187, t188, t189⟩ : S81), (⟨t190, t191, t192⟩ : S81)] : List (S81))) (inner := [.int .i64 t187, .int .i64 t188, .string t189, .int .i64 t190, .int .i64 t191, .string t192]) (ok := fun _ => True) (okp := fun _ => True) ?hr ?hp (fun _ hk => hk) trivial (Below.refl _ _) (Nat.le_refl _) (by simp) ?_; (case hd => rfl); (case hg => rfl); (case hr => first | (go_simp; done) | (go_simp; rfl)); (case hp => exact (Reps.c3 (show Kd.M k81 _ _ _ (⟨t187, t188, t189⟩ : S81) [.int .i64 t187, .int .i64 t188, .string t189] from (k81_mkM _ _ _ (⟨t187, t188, t189⟩ : S81) )) (Reps.c3 (show Kd.M k81 _ _ _ (⟨t190, t191, t192⟩ : S81) [.int .i64 t190, .int .i64 t191, .string t192] from (k81_mkM _ _ _ (⟨t190, t191, t192⟩ : S81) )) (Reps.none _ _))))
                        intro v194 w26 ho27 hb hg_ hnew_
                        clear hg_ hnew_
                        (first | rw [← Ny193.out] at ho27 | (simp only [Int.reduceToNat] at ho27; rw [← Ny193.out] at ho27))
                        have n0_ := Aside0.mk (Kd.R_elder' (by (with_reducible repeat (first | apply Kd.R_alloc | apply Kd.R_drewN | apply Kd.R_drew)); exact HO208.out) (Kd.R_base ho27) hb)
                        have n1_ := Aside0.mk (Kd.R_lower (Kd.R_newB (Kd.R_new' ho27 (Kd.R_lt (by (with_reducible repeat (first | apply Kd.R_alloc | apply Kd.R_drewN | apply Kd.R_drew)); exact HO208.out))) (g := gb186) (o := .cells #[.int .i64 x187000_4, .int .i64 x187001_4, .string x187002_4] 81 (0, 0)) (by (with_reducible repeat (first | refine blk_drewN ?_ _ | refine blk_drew ?_ | refine blk_alloc ?_ _)); exact BK186.out)) (below_size (by repeat (first | (with_reducible first | exact HB.out | apply below_alloc | apply pw_below_drewN | apply below_drew1 | refine below_set ?_ GE186.out) | exact HB.out))))
                        have n2_ := Aside0.mk (blk_below (g := gb186) (o := .cells #[.int .i64 x187000_4, .int .i64 x187001_4, .string x187002_4] 81 (0, 0)) (by (with_reducible repeat (first | refine blk_drewN ?_ _ | refine blk_drew ?_ | refine blk_alloc ?_ _)); exact BK186.out) hb)
                        have n3_ := Aside0.mk (below_step (by repeat (first | (with_reducible first | exact HB.out | apply below_alloc | apply pw_below_drewN | apply below_drew1 | refine below_set ?_ GE186.out) | exact HB.out)) hb)
                        clear HO208
                        clear BK186
                        clear HB
                        have HO208 := n0_
                        have HO195 := n1_
                        have BK186 := n2_
                        have HB := n3_
                        clear n0_ n1_ n2_ n3_
                        clear hb ho27
                        refine hK.out _ _ ⟨(blk_cell BK186.out 0).trans rfl, (blk_cell BK186.out 1).trans rfl, (blk_cell BK186.out 2).trans rfl⟩ (fun hHeld => ?_)
                        clear hK K
                        refine norm_ (a' := ?_) ?_ ?_
                        rotate_left
                        · show Act.put _ (some 16) _ = _
                          simp only [Act.put, List.setIfInBounds_toArray, List.set_cons_zero, List.set_cons_succ, i64_w, i32_w]
                          rfl
                        exact norm_ (by first | (simp only [putAll, Act.put, List.setIfInBounds_toArray, List.set_cons_zero, List.set_cons_succ]; done) | (simp only [putAll, Act.put, List.setIfInBounds_toArray, List.set_cons_zero, List.set_cons_succ]; rfl)) (hJ3_4_6_9_11 (v194, v207) _ ⟨hHeld, (by (with_reducible repeat (first | apply Kd.R_alloc | apply Kd.R_drewN | apply Kd.R_drew)); exact Kd.R_mono HO195.out (fun _ hk => ⟨hk.1.2, hk.2⟩)), (by (with_reducible repeat (first | apply Kd.R_alloc | apply Kd.R_drewN | apply Kd.R_drew)); exact Kd.R_mono HO208.out (fun _ hk => ⟨hk.2, hk.1⟩)), (by (with_reducible repeat (first | refine blk_drewN ?_ _ | refine blk_drew ?_ | refine blk_alloc ?_ _)); exact BK186.out), (by repeat (first | (with_reducible first | exact HB.out | apply below_alloc | apply pw_below_drewN | apply below_drew1 | refine below_set ?_ GE186.out) | exact HB.out))⟩)
                      · skip
                        refine Kd.R_lit_step k81 _ 81 ?hg (N := 21) ?hd (xs := ([(⟨t196, t197, t198⟩ : S81), (⟨2, t199, (⟨#[]⟩ : ByteArray)⟩ : S81)] : List (S81))) (inner := [.int .i64 t196, .int .i64 t197, .string t198, .int .i64 2, .int .i64 t199, .string (⟨#[]⟩ : ByteArray)]) (ok := fun _ => True) (okp := fun _ => True) ?hr ?hp (fun _ hk => hk) trivial (Below.refl _ _) (Nat.le_refl _) (by simp) ?_; (case hd => rfl); (case hg => rfl); (case hr => first | (go_simp; done) | (go_simp; rfl)); (case hp => exact (Reps.c3 (show Kd.M k81 _ _ _ (⟨t196, t197, t198⟩ : S81) [.int .i64 t196, .int .i64 t197, .string t198] from (k81_mkM _ _ _ (⟨t196, t197, t198⟩ : S81) )) (Reps.c3 (show Kd.M k81 _ _ _ (⟨2, t199, (⟨#[]⟩ : ByteArray)⟩ : S81) [.int .i64 2, .int .i64 t199, .string (⟨#[]⟩ : ByteArray)] from (k81_mkM _ _ _ (⟨2, t199, (⟨#[]⟩ : ByteArray)⟩ : S81) )) (Reps.none _ _))))
                        intro v201 w26 ho27 hb hg_ hnew_
                        clear hg_ hnew_
                        (first | rw [← Ny200.out] at ho27 | (simp only [Int.reduceToNat] at ho27; rw [← Ny200.out] at ho27))
                        have n0_ := Aside0.mk (Kd.R_elder' (by (with_reducible repeat (first | apply Kd.R_alloc | apply Kd.R_drewN | apply Kd.R_drew)); exact HO208.out) (Kd.R_base ho27) hb)
                        have n1_ := Aside0.mk (Kd.R_lower (Kd.R_newB (Kd.R_new' ho27 (Kd.R_lt (by (with_reducible repeat (first | apply Kd.R_alloc | apply Kd.R_drewN | apply Kd.R_drew)); exact HO208.out))) (g := gb186) (o := .cells #[.int .i64 x187000_4, .int .i64 x187001_4, .string x187002_4] 81 (0, 0)) (by (with_reducible repeat (first | refine blk_drewN ?_ _ | refine blk_drew ?_ | refine blk_alloc ?_ _)); exact BK186.out)) (below_size (by repeat (first | (with_reducible first | exact HB.out | apply below_alloc | apply pw_below_drewN | apply below_drew1 | refine below_set ?_ GE186.out) | exact HB.out))))
                        have n2_ := Aside0.mk (blk_below (g := gb186) (o := .cells #[.int .i64 x187000_4, .int .i64 x187001_4, .string x187002_4] 81 (0, 0)) (by (with_reducible repeat (first | refine blk_drewN ?_ _ | refine blk_drew ?_ | refine blk_alloc ?_ _)); exact BK186.out) hb)
                        have n3_ := Aside0.mk (below_step (by repeat (first | (with_reducible first | exact HB.out | apply below_alloc | apply pw_below_drewN | apply below_drew1 | refine below_set ?_ GE186.out) | exact HB.out)) hb)
                        clear HO208
                        clear BK186
                        clear HB
                        have HO208 := n0_
                        have HO202 := n1_
                        have BK186 := n2_
                        have HB := n3_
                        clear n0_ n1_ n2_ n3_
                        clear hb ho27
                        refine hK.out _ _ ⟨(blk_cell BK186.out 0).trans rfl, (blk_cell BK186.out 1).trans rfl, (blk_cell BK186.out 2).trans rfl⟩ (fun hHeld => ?_)
                        clear hK K
                        refine norm_ (a' := ?_) ?_ ?_
                        rotate_left
                        · show Act.put _ (some 21) _ = _
                          simp only [Act.put, List.setIfInBounds_toArray, List.set_cons_zero, List.set_cons_succ, i64_w, i32_w]
                          rfl
                        exact norm_ (by first | (simp only [putAll, Act.put, List.setIfInBounds_toArray, List.set_cons_zero, List.set_cons_succ]; done) | (simp only [putAll, Act.put, List.setIfInBounds_toArray, List.set_cons_zero, List.set_cons_succ]; rfl)) (hJ4_6_8_9_11 (v201, v207) _ ⟨hHeld, (by (with_reducible repeat (first | apply Kd.R_alloc | apply Kd.R_drewN | apply Kd.R_drew)); exact Kd.R_mono HO202.out (fun _ hk => ⟨hk.1.2, hk.2⟩)), (by (with_reducible repeat (first | apply Kd.R_alloc | apply Kd.R_drewN | apply Kd.R_drew)); exact Kd.R_mono HO208.out (fun _ hk => ⟨hk.2, hk.1⟩)), (by (with_reducible repeat (first | refine blk_drewN ?_ _ | refine blk_drew ?_ | refine blk_alloc ?_ _)); exact BK186.out), (by repeat (first | (with_reducible first | exact HB.out | apply below_alloc | apply pw_below_drewN | apply below_drew1 | refine below_set ?_ GE186.out) | exact HB.out))⟩)
                  · skip
                    rintro v201 w25 ⟨hS_, h0_, h1_, h2_⟩
                    have n0_ : Aside0 (Kd.R k81 81 w25 w.heap.size (fun k_ => k_ ≠ gb186) v201 y200) := ⟨h0_⟩
                    have n1_ : Aside0 (w25.heap[gb186]? = some (.cells #[.int .i64 x187000_4, .int .i64 x187001_4, .string x187002_4] 81 (0, 0))) := ⟨h1_⟩
                    have n2_ : Aside0 (Below w.heap.size w w25) := ⟨h2_⟩
                    clear BK186
                    clear HB
                    clear h0_ h1_ h2_
                    have HO202 := n0_
                    have BK186 := n1_
                    have HB := n2_
                    clear n0_ n1_ n2_
                    have hHeld : w25.cell? ⟨gb186, 0, none⟩ = some (.int .i64 x187000_4) ∧ w25.cell? ⟨gb186, 1, none⟩ = some (.int .i64 x187001_4) ∧ w25.cell? ⟨gb186, 2, none⟩ = some (.string x187002_4) := hS_
                    refine norm_ (a' := ?_) ?_ ?_
                    rotate_left
                    · simp only [putAll, Act.put, List.setIfInBounds_toArray, List.set_cons_zero, List.set_cons_succ]
                      rfl
                    refine two_ (i := 3) (j := 11) (Ni := some 16) (Nj := some 24) #[true, true, true, true, true, true, true, true, true, true, true, false, false, false, false, false] #[true, true, true, false, true, true, true, true, true, true, true, true, false, false, false, false] rfl rfl rfl rfl (two_of HT_.out (by kernel_rfl)) (by decide) (by decide) (fun K hK => ?_) (fun K hK => ?_)
                    · skip
                      refine Kd.R_lit_step k81 _ 81 ?hg (N := 16) ?hd (xs := ([(⟨t187, t188, t189⟩ : S81), (⟨t190, t191, t192⟩ : S81)] : List (S81))) (inner := [.int .i64 t187, .int .i64 t188, .string t189, .int .i64 t190, .int .i64 t191, .string t192]) (ok := fun _ => True) (okp := fun _ => True) ?hr ?hp (fun _ hk => hk) trivial (Below.refl _ _) (Nat.le_refl _) (by simp) ?_; (case hd => rfl); (case hg => rfl); (case hr => first | (go_simp; done) | (go_simp; rfl)); (case hp => exact (Reps.c3 (show Kd.M k81 _ _ _ (⟨t187, t188, t189⟩ : S81) [.int .i64 t187, .int .i64 t188, .string t189] from (k81_mkM _ _ _ (⟨t187, t188, t189⟩ : S81) )) (Reps.c3 (show Kd.M k81 _ _ _ (⟨t190, t191, t192⟩ : S81) [.int .i64 t190, .int .i64 t191, .string t192] from (k81_mkM _ _ _ (⟨t190, t191, t192⟩ : S81) )) (Reps.none _ _))))
                      intro v194 w26 ho27 hb hg_ hnew_
                      clear hg_ hnew_
                      (first | rw [← Ny193.out] at ho27 | (simp only [Int.reduceToNat] at ho27; rw [← Ny193.out] at ho27))
                      have n0_ := Aside0.mk (Kd.R_elder' (by (with_reducible repeat (first | apply Kd.R_alloc | apply Kd.R_drewN | apply Kd.R_drew)); exact HO202.out) (Kd.R_base ho27) hb)
                      have n1_ := Aside0.mk (Kd.R_lower (Kd.R_newB (Kd.R_new' ho27 (Kd.R_lt (by (with_reducible repeat (first | apply Kd.R_alloc | apply Kd.R_drewN | apply Kd.R_drew)); exact HO202.out))) (g := gb186) (o := .cells #[.int .i64 x187000_4, .int .i64 x187001_4, .string x187002_4] 81 (0, 0)) (by (with_reducible repeat (first | refine blk_drewN ?_ _ | refine blk_drew ?_ | refine blk_alloc ?_ _)); exact BK186.out)) (below_size (by repeat (first | (with_reducible first | exact HB.out | apply below_alloc | apply pw_below_drewN | apply below_drew1 | refine below_set ?_ GE186.out) | exact HB.out))))
                      have n2_ := Aside0.mk (blk_below (g := gb186) (o := .cells #[.int .i64 x187000_4, .int .i64 x187001_4, .string x187002_4] 81 (0, 0)) (by (with_reducible repeat (first | refine blk_drewN ?_ _ | refine blk_drew ?_ | refine blk_alloc ?_ _)); exact BK186.out) hb)
                      have n3_ := Aside0.mk (below_step (by repeat (first | (with_reducible first | exact HB.out | apply below_alloc | apply pw_below_drewN | apply below_drew1 | refine below_set ?_ GE186.out) | exact HB.out)) hb)
                      clear HO202
                      clear BK186
                      clear HB
                      have HO202 := n0_
                      have HO195 := n1_
                      have BK186 := n2_
                      have HB := n3_
                      clear n0_ n1_ n2_ n3_
                      clear hb ho27
                      refine hK.out _ _ ⟨(blk_cell BK186.out 0).trans rfl, (blk_cell BK186.out 1).trans rfl, (blk_cell BK186.out 2).trans rfl⟩ (fun hHeld => ?_)
                      clear hK K
                      refine norm_ (a' := ?_) ?_ ?_
                      rotate_left
                      · show Act.put _ (some 16) _ = _
                        simp only [Act.put, List.setIfInBounds_toArray, List.set_cons_zero, List.set_cons_succ, i64_w, i32_w]
                        rfl
                      exact norm_ (by first | (simp only [putAll, Act.put, List.setIfInBounds_toArray, List.set_cons_zero, List.set_cons_succ]; done) | (simp only [putAll, Act.put, List.setIfInBounds_toArray, List.set_cons_zero, List.set_cons_succ]; rfl)) (hJ3_4_6_8_9 (v194, v201) _ ⟨hHeld, (by (with_reducible repeat (first | apply Kd.R_alloc | apply Kd.R_drewN | apply Kd.R_drew)); exact Kd.R_mono HO195.out (fun _ hk => ⟨hk.1.2, hk.2⟩)), (by (with_reducible repeat (first | apply Kd.R_alloc | apply Kd.R_drewN | apply Kd.R_drew)); exact Kd.R_mono HO202.out (fun _ hk => ⟨hk.2, hk.1⟩)), (by (with_reducible repeat (first | refine blk_drewN ?_ _ | refine blk_drew ?_ | refine blk_alloc ?_ _)); exact BK186.out), (by repeat (first | (with_reducible first | exact HB.out | apply below_alloc | apply pw_below_drewN | apply below_drew1 | refine below_set ?_ GE186.out) | exact HB.out))⟩)
                    · skip
                      refine Kd.R_lit_step k81 _ 81 ?hg (N := 24) ?hd (xs := ([(⟨t203, t204, t205⟩ : S81), (⟨x187000_4, x187001_4, x187002_4⟩ : S81)] : List (S81))) (inner := [.int .i64 t203, .int .i64 t204, .string t205, .int .i64 x187000_4, .int .i64 x187001_4, .string x187002_4]) (ok := fun _ => True) (okp := fun _ => True) ?hr ?hp (fun _ hk => hk) trivial (Below.refl _ _) (Nat.le_refl _) (by simp) ?_; (case hd => rfl); (case hg => rfl); (case hr => first | (go_simp; done) | (go_simp; rfl)); (case hp => exact (Reps.c3 (show Kd.M k81 _ _ _ (⟨t203, t204, t205⟩ : S81) [.int .i64 t203, .int .i64 t204, .string t205] from (k81_mkM _ _ _ (⟨t203, t204, t205⟩ : S81) )) (Reps.c3 (show Kd.M k81 _ _ _ (⟨x187000_4, x187001_4, x187002_4⟩ : S81) [.int .i64 x187000_4, .int .i64 x187001_4, .string x187002_4] from (k81_mkM _ _ _ (⟨x187000_4, x187001_4, x187002_4⟩ : S81) )) (Reps.none _ _))))
                      intro v207 w26 ho27 hb hg_ hnew_
                      clear hg_ hnew_
                      (first | rw [← Ny206.out] at ho27 | (simp only [Int.reduceToNat] at ho27; rw [← Ny206.out] at ho27))
                      have n0_ := Aside0.mk (Kd.R_elder' (by (with_reducible repeat (first | apply Kd.R_alloc | apply Kd.R_drewN | apply Kd.R_drew)); exact HO202.out) (Kd.R_base ho27) hb)
                      have n1_ := Aside0.mk (Kd.R_lower (Kd.R_newB (Kd.R_new' ho27 (Kd.R_lt (by (with_reducible repeat (first | apply Kd.R_alloc | apply Kd.R_drewN | apply Kd.R_drew)); exact HO202.out))) (g := gb186) (o := .cells #[.int .i64 x187000_4, .int .i64 x187001_4, .string x187002_4] 81 (0, 0)) (by (with_reducible repeat (first | refine blk_drewN ?_ _ | refine blk_drew ?_ | refine blk_alloc ?_ _)); exact BK186.out)) (below_size (by repeat (first | (with_reducible first | exact HB.out | apply below_alloc | apply pw_below_drewN | apply below_drew1 | refine below_set ?_ GE186.out) | exact HB.out))))
                      have n2_ := Aside0.mk (blk_below (g := gb186) (o := .cells #[.int .i64 x187000_4, .int .i64 x187001_4, .string x187002_4] 81 (0, 0)) (by (with_reducible repeat (first | refine blk_drewN ?_ _ | refine blk_drew ?_ | refine blk_alloc ?_ _)); exact BK186.out) hb)
                      have n3_ := Aside0.mk (below_step (by repeat (first | (with_reducible first | exact HB.out | apply below_alloc | apply pw_below_drewN | apply below_drew1 | refine below_set ?_ GE186.out) | exact HB.out)) hb)
                      clear HO202
                      clear BK186
                      clear HB
                      have HO202 := n0_
                      have HO208 := n1_
                      have BK186 := n2_
                      have HB := n3_
                      clear n0_ n1_ n2_ n3_
                      clear hb ho27
                      refine hK.out _ _ ⟨(blk_cell BK186.out 0).trans rfl, (blk_cell BK186.out 1).trans rfl, (blk_cell BK186.out 2).trans rfl⟩ (fun hHeld => ?_)
                      clear hK K
                      refine norm_ (a' := ?_) ?_ ?_
                      rotate_left
                      · show Act.put _ (some 24) _ = _
                        simp only [Act.put, List.setIfInBounds_toArray, List.set_cons_zero, List.set_cons_succ, i64_w, i32_w]
                        rfl
                      exact norm_ (by first | (simp only [putAll, Act.put, List.setIfInBounds_toArray, List.set_cons_zero, List.set_cons_succ]; done) | (simp only [putAll, Act.put, List.setIfInBounds_toArray, List.set_cons_zero, List.set_cons_succ]; rfl)) (hJ4_6_8_9_11 (v201, v207) _ ⟨hHeld, (by (with_reducible repeat (first | apply Kd.R_alloc | apply Kd.R_drewN | apply Kd.R_drew)); exact Kd.R_mono HO202.out (fun _ hk => ⟨hk.2, hk.1⟩)), (by (with_reducible repeat (first | apply Kd.R_alloc | apply Kd.R_drewN | apply Kd.R_drew)); exact Kd.R_mono HO208.out (fun _ hk => ⟨hk.1.2, hk.2⟩)), (by (with_reducible repeat (first | refine blk_drewN ?_ _ | refine blk_drew ?_ | refine blk_alloc ?_ _)); exact BK186.out), (by repeat (first | (with_reducible first | exact HB.out | apply below_alloc | apply pw_below_drewN | apply below_drew1 | refine below_set ?_ GE186.out) | exact HB.out))⟩)
                · skip
                  rintro v194 w25 ⟨hS_, h0_, h1_, h2_⟩
                  have n0_ : Aside0 (Kd.R k81 81 w25 w.heap.size (fun k_ => k_ ≠ gb186) v194 y193) := ⟨h0_⟩
                  have n1_ : Aside0 (w25.heap[gb186]? = some (.cells #[.int .i64 x187000_4, .int .i64 x187001_4, .string x187002_4] 81 (0, 0))) := ⟨h1_⟩
                  have n2_ : Aside0 (Below w.heap.size w w25) := ⟨h2_⟩
                  clear BK186
                  clear HB
                  clear h0_ h1_ h2_
                  have HO195 := n0_
                  have BK186 := n1_
                  have HB := n2_
                  clear n0_ n1_ n2_
                  have hHeld : w25.cell? ⟨gb186, 0, none⟩ = some (.int .i64 x187000_4) ∧ w25.cell? ⟨gb186, 1, none⟩ = some (.int .i64 x187001_4) ∧ w25.cell? ⟨gb186, 2, none⟩ = some (.string x187002_4) := hS_
                  refine norm_ (a' := ?_) ?_ ?_
                  rotate_left
                  · simp only [putAll, Act.put, List.setIfInBounds_toArray, List.set_cons_zero, List.set_cons_succ]
                    rfl
                  refine two_ (i := 8) (j := 11) (Ni := some 21) (Nj := some 24) #[true, true, true, true, true, true, true, true, true, true, true, false, false, false, false, false] #[true, true, true, true, true, true, true, true, false, true, true, true, false, false, false, false] rfl rfl rfl rfl (two_of HT_.out (by kernel_rfl)) (by decide) (by decide) (fun K hK => ?_) (fun K hK => ?_)
                  · skip
                    refine Kd.R_lit_step k81 _ 81 ?hg (N := 21) ?hd (xs := ([(⟨t196, t197, t198⟩ : S81), (⟨2, t199, (⟨#[]⟩ : ByteArray)⟩ : S81)] : List (S81))) (inner := [.int .i64 t196, .int .i64 t197, .string t198, .int .i64 2, .int .i64 t199, .string (⟨#[]⟩ : ByteArray)]) (ok := fun _ => True) (okp := fun _ => True) ?hr ?hp (fun _ hk => hk) trivial (Below.refl _ _) (Nat.le_refl _) (by simp) ?_; (case hd => rfl); (case hg => rfl); (case hr => first | (go_simp; done) | (go_simp; rfl)); (case hp => exact (Reps.c3 (show Kd.M k81 _ _ _ (⟨t196, t197, t198⟩ : S81) [.int .i64 t196, .int .i64 t197, .string t198] from (k81_mkM _ _ _ (⟨t196, t197, t198⟩ : S81) )) (Reps.c3 (show Kd.M k81 _ _ _ (⟨2, t199, (⟨#[]⟩ : ByteArray)⟩ : S81) [.int .i64 2, .int .i64 t199, .string (⟨#[]⟩ : ByteArray)] from (k81_mkM _ _ _ (⟨2, t199, (⟨#[]⟩ : ByteArray)⟩ : S81) )) (Reps.none _ _))))
                    intro v201 w26 ho27 hb hg_ hnew_
                    clear hg_ hnew_
                    (first | rw [← Ny200.out] at ho27 | (simp only [Int.reduceToNat] at ho27; rw [← Ny200.out] at ho27))
                    have n0_ := Aside0.mk (Kd.R_elder' (by (with_reducible repeat (first | apply Kd.R_alloc | apply Kd.R_drewN | apply Kd.R_drew)); exact HO195.out) (Kd.R_base ho27) hb)
                    have n1_ := Aside0.mk (Kd.R_lower (Kd.R_newB (Kd.R_new' ho27 (Kd.R_lt (by (with_reducible repeat (first | apply Kd.R_alloc | apply Kd.R_drewN | apply Kd.R_drew)); exact HO195.out))) (g := gb186) (o := .cells #[.int .i64 x187000_4, .int .i64 x187001_4, .string x187002_4] 81 (0, 0)) (by (with_reducible repeat (first | refine blk_drewN ?_ _ | refine blk_drew ?_ | refine blk_alloc ?_ _)); exact BK186.out)) (below_size (by repeat (first | (with_reducible first | exact HB.out | apply below_alloc | apply pw_below_drewN | apply below_drew1 | refine below_set ?_ GE186.out) | exact HB.out))))
                    have n2_ := Aside0.mk (blk_below (g := gb186) (o := .cells #[.int .i64 x187000_4, .int .i64 x187001_4, .string x187002_4] 81 (0, 0)) (by (with_reducible repeat (first | refine blk_drewN ?_ _ | refine blk_drew ?_ | refine blk_alloc ?_ _)); exact BK186.out) hb)
                    have n3_ := Aside0.mk (below_step (by repeat (first | (with_reducible first | exact HB.out | apply below_alloc | apply pw_below_drewN | apply below_drew1 | refine below_set ?_ GE186.out) | exact HB.out)) hb)
                    clear HO195
                    clear BK186
                    clear HB
                    have HO195 := n0_
                    have HO202 := n1_
                    have BK186 := n2_
                    have HB := n3_
                    clear n0_ n1_ n2_ n3_
                    clear hb ho27
                    refine hK.out _ _ ⟨(blk_cell BK186.out 0).trans rfl, (blk_cell BK186.out 1).trans rfl, (blk_cell BK186.out 2).trans rfl⟩ (fun hHeld => ?_)
                    clear hK K
                    refine norm_ (a' := ?_) ?_ ?_
                    rotate_left
                    · show Act.put _ (some 21) _ = _
                      simp only [Act.put, List.setIfInBounds_toArray, List.set_cons_zero, List.set_cons_succ, i64_w, i32_w]
                      rfl
                    exact norm_ (by first | (simp only [putAll, Act.put, List.setIfInBounds_toArray, List.set_cons_zero, List.set_cons_succ]; done) | (simp only [putAll, Act.put, List.setIfInBounds_toArray, List.set_cons_zero, List.set_cons_succ]; rfl)) (hJ3_4_6_8_9 (v194, v201) _ ⟨hHeld, (by (with_reducible repeat (first | apply Kd.R_alloc | apply Kd.R_drewN | apply Kd.R_drew)); exact Kd.R_mono HO195.out (fun _ hk => ⟨hk.2, hk.1⟩)), (by (with_reducible repeat (first | apply Kd.R_alloc | apply Kd.R_drewN | apply Kd.R_drew)); exact Kd.R_mono HO202.out (fun _ hk => ⟨hk.1.2, hk.2⟩)), (by (with_reducible repeat (first | refine blk_drewN ?_ _ | refine blk_drew ?_ | refine blk_alloc ?_ _)); exact BK186.out), (by repeat (first | (with_reducible first | exact HB.out | apply below_alloc | apply pw_below_drewN | apply below_drew1 | refine below_set ?_ GE186.out) | exact HB.out))⟩)
                  · skip
                    refine Kd.R_lit_step k81 _ 81 ?hg (N := 24) ?hd (xs := ([(⟨t203, t204, t205⟩ : S81), (⟨x187000_4, x187001_4, x187002_4⟩ : S81)] : List (S81))) (inner := [.int .i64 t203, .int .i64 t204, .string t205, .int .i64 x187000_4, .int .i64 x187001_4, .string x187002_4]) (ok := fun _ => True) (okp := fun _ => True) ?hr ?hp (fun _ hk => hk) trivial (Below.refl _ _) (Nat.le_refl _) (by simp) ?_; (case hd => rfl); (case hg => rfl); (case hr => first | (go_simp; done) | (go_simp; rfl)); (case hp => exact (Reps.c3 (show Kd.M k81 _ _ _ (⟨t203, t204, t205⟩ : S81) [.int .i64 t203, .int .i64 t204, .string t205] from (k81_mkM _ _ _ (⟨t203, t204, t205⟩ : S81) )) (Reps.c3 (show Kd.M k81 _ _ _ (⟨x187000_4, x187001_4, x187002_4⟩ : S81) [.int .i64 x187000_4, .int .i64 x187001_4, .string x187002_4] from (k81_mkM _ _ _ (⟨x187000_4, x187001_4, x187002_4⟩ : S81) )) (Reps.none _ _))))
                    intro v207 w26 ho27 hb hg_ hnew_
                    clear hg_ hnew_
                    (first | rw [← Ny206.out] at ho27 | (simp only [Int.reduceToNat] at ho27; rw [← Ny206.out] at ho27))
                    have n0_ := Aside0.mk (Kd.R_elder' (by (with_reducible repeat (first | apply Kd.R_alloc | apply Kd.R_drewN | apply Kd.R_drew)); exact HO195.out) (Kd.R_base ho27) hb)
                    have n1_ := Aside0.mk (Kd.R_lower (Kd.R_newB (Kd.R_new' ho27 (Kd.R_lt (by (with_reducible repeat (first | apply Kd.R_alloc | apply Kd.R_drewN | apply Kd.R_drew)); exact HO195.out))) (g := gb186) (o := .cells #[.int .i64 x187000_4, .int .i64 x187001_4, .string x187002_4] 81 (0, 0)) (by (with_reducible repeat (first | refine blk_drewN ?_ _ | refine blk_drew ?_ | refine blk_alloc ?_ _)); exact BK186.out)) (below_size (by repeat (first | (with_reducible first | exact HB.out | apply below_alloc | apply pw_below_drewN | apply below_drew1 | refine below_set ?_ GE186.out) | exact HB.out))))
                    have n2_ := Aside0.mk (blk_below (g := gb186) (o := .cells #[.int .i64 x187000_4, .int .i64 x187001_4, .string x187002_4] 81 (0, 0)) (by (with_reducible repeat (first | refine blk_drewN ?_ _ | refine blk_drew ?_ | refine blk_alloc ?_ _)); exact BK186.out) hb)
                    have n3_ := Aside0.mk (below_step (by repeat (first | (with_reducible first | exact HB.out | apply below_alloc | apply pw_below_drewN | apply below_drew1 | refine below_set ?_ GE186.out) | exact HB.out)) hb)
                    clear HO195
                    clear BK186
                    clear HB
                    have HO195 := n0_
                    have HO208 := n1_
                    have BK186 := n2_
                    have HB := n3_
                    clear n0_ n1_ n2_ n3_
                    clear hb ho27
                    refine hK.out _ _ ⟨(blk_cell BK186.out 0).trans rfl, (blk_cell BK186.out 1).trans rfl, (blk_cell BK186.out 2).trans rfl⟩ (fun hHeld => ?_)
                    clear hK K
                    refine norm_ (a' := ?_) ?_ ?_
                    rotate_left
                    · show Act.put _ (some 24) _ = _
                      simp only [Act.put, List.setIfInBounds_toArray, List.set_cons_zero, List.set_cons_succ, i64_w, i32_w]
                      rfl
                    exact norm_ (by first | (simp only [putAll, Act.put, List.setIfInBounds_toArray, List.set_cons_zero, List.set_cons_succ]; done) | (simp only [putAll, Act.put, List.setIfInBounds_toArray, List.set_cons_zero, List.set_cons_succ]; rfl)) (hJ3_4_6_9_11 (v194, v207) _ ⟨hHeld, (by (with_reducible repeat (first | apply Kd.R_alloc | apply Kd.R_drewN | apply Kd.R_drew)); exact Kd.R_mono HO195.out (fun _ hk => ⟨hk.2, hk.1⟩)), (by (with_reducible repeat (first | apply Kd.R_alloc | apply Kd.R_drewN | apply Kd.R_drew)); exact Kd.R_mono HO208.out (fun _ hk => ⟨hk.1.2, hk.2⟩)), (by (with_reducible repeat (first | refine blk_drewN ?_ _ | refine blk_drew ?_ | refine blk_alloc ?_ _)); exact BK186.out), (by repeat (first | (with_reducible first | exact HB.out | apply below_alloc | apply pw_below_drewN | apply below_drew1 | refine below_set ?_ GE186.out) | exact HB.out))⟩)
              · skip
                rintro ⟨v194, v201⟩ w26 ⟨hS_, h0_, h1_, h2_, h3_⟩
                have n0_ : Aside0 (Kd.R k81 81 w26 w.heap.size (fun k_ => some k_ ≠ (v201 : Value).ownBlock ∧ k_ ≠ gb186) v194 y193) := ⟨h0_⟩
                have n1_ : Aside0 (Kd.R k81 81 w26 w.heap.size (fun k_ => some k_ ≠ (v194 : Value).ownBlock ∧ k_ ≠ gb186) v201 y200) := ⟨h1_⟩
                have n2_ : Aside0 (w26.heap[gb186]? = some (.cells #[.int .i64 x187000_4, .int .i64 x187001_4, .string x187002_4] 81 (0, 0))) := ⟨h2_⟩
                have n3_ : Aside0 (Below w.heap.size w w26) := ⟨h3_⟩
                clear BK186
                clear HB
                clear h0_ h1_ h2_ h3_
                have HO195 := n0_
                have HO202 := n1_
                have BK186 := n2_
                have HB := n3_
                clear n0_ n1_ n2_ n3_
                have hHeld : w26.cell? ⟨gb186, 0, none⟩ = some (.int .i64 x187000_4) ∧ w26.cell? ⟨gb186, 1, none⟩ = some (.int .i64 x187001_4) ∧ w26.cell? ⟨gb186, 2, none⟩ = some (.string x187002_4) := hS_
                refine norm_ (a' := ?_) ?_ ?_
                rotate_left
                · simp only [putAll, Act.put, List.setIfInBounds_toArray, List.set_cons_zero, List.set_cons_succ]
                  rfl
                refine one_ (i := 9) (N := some 22) #[true, true, true, true, true, true, true, true, true, true, true, false, false, false, false, false] rfl rfl (one_of HT_.out (by kernel_rfl)) (by decide) (fun K hK => ?_)
                refine goes_ Tryd.func75 (by kernel_rfl) rfl #[.string (⟨#[101, 114, 114, 111, 114]⟩ : ByteArray)] (by rfl) rfl rfl (by (try simp only [List.map_toArray, List.map_cons, List.map_nil]); first | done | rfl | (simp only [List.length_drop, List.length_take]; rfl)) ?_
                with_reducible refine (impl_textVal.calls (⟨#[101, 114, 114, 111, 114]⟩ : ByteArray) t203 t204 t205 _ A15.out).mono ?_
                rintro e w27 ⟨rfl, hb⟩
                refine ⟨_, rfl, ?_⟩
                have n0_ := Aside0.mk (Kd.R_below (by (with_reducible repeat (first | apply Kd.R_alloc | apply Kd.R_drewN | apply Kd.R_drew)); exact HO195.out) hb)
                have n1_ := Aside0.mk (Kd.R_below (by (with_reducible repeat (first | apply Kd.R_alloc | apply Kd.R_drewN | apply Kd.R_drew)); exact HO202.out) hb)
                have n2_ := Aside0.mk (blk_below (g := gb186) (o := .cells #[.int .i64 x187000_4, .int .i64 x187001_4, .string x187002_4] 81 (0, 0)) (by (with_reducible repeat (first | refine blk_drewN ?_ _ | refine blk_drew ?_ | refine blk_alloc ?_ _)); exact BK186.out) hb)
                have n3_ := Aside0.mk (below_step (by repeat (first | (with_reducible first | exact HB.out | apply below_alloc | apply pw_below_drewN | apply below_drew1 | refine below_set ?_ GE186.out) | exact HB.out)) hb)
                clear HO195
                clear HO202
                clear BK186
                clear HB
                have HO195 := n0_
                have HO202 := n1_
                have BK186 := n2_
                have HB := n3_
                clear n0_ n1_ n2_ n3_
                (try clear hb)
                (try clear hb2)
                (try clear hk)
                (try clear hi)
                refine hK.out _ _ ⟨(blk_cell BK186.out 0).trans rfl, (blk_cell BK186.out 1).trans rfl, (blk_cell BK186.out 2).trans rfl⟩ (fun hHeld => ?_)
                clear hK K
                refine norm_ (a' := ?_) ?_ ?_
                rotate_left
                · show Act.put _ (some 22) _ = _
                  simp only [Act.put, List.setIfInBounds_toArray, List.set_cons_zero, List.set_cons_succ, i64_w, i32_w]
                  rfl
                exact norm_ (by first | (simp only [putAll, Act.put, List.setIfInBounds_toArray, List.set_cons_zero, List.set_cons_succ]; done) | (simp only [putAll, Act.put, List.setIfInBounds_toArray, List.set_cons_zero, List.set_cons_succ]; rfl)) (hJ3_4_6_8_9 (v194, v201) _ ⟨hHeld, (by (with_reducible repeat (first | apply Kd.R_alloc | apply Kd.R_drewN | apply Kd.R_drew)); exact HO195.out), (by (with_reducible repeat (first | apply Kd.R_alloc | apply Kd.R_drewN | apply Kd.R_drew)); exact HO202.out), (by (with_reducible repeat (first | refine blk_drewN ?_ _ | refine blk_drew ?_ | refine blk_alloc ?_ _)); exact BK186.out), (by repeat (first | (with_reducible first | exact HB.out | apply below_alloc | apply pw_below_drewN | apply below_drew1 | refine below_set ?_ GE186.out) | exact HB.out))⟩)
            · skip
              rintro ⟨v201, v207⟩ w27 ⟨hS_, h0_, h1_, h2_, h3_⟩
              have n0_ : Aside0 (Kd.R k81 81 w27 w.heap.size (fun k_ => some k_ ≠ (v207 : Value).ownBlock ∧ k_ ≠ gb186) v201 y200) := ⟨h0_⟩
              have n1_ : Aside0 (Kd.R k81 81 w27 w.heap.size (fun k_ => some k_ ≠ (v201 : Value).ownBlock ∧ k_ ≠ gb186) v207 y206) := ⟨h1_⟩
              have n2_ : Aside0 (w27.heap[gb186]? = some (.cells #[.int .i64 x187000_4, .int .i64 x187001_4, .string x187002_4] 81 (0, 0))) := ⟨h2_⟩
              have n3_ : Aside0 (Below w.heap.size w w27) := ⟨h3_⟩
              clear BK186
              clear HB
              clear h0_ h1_ h2_ h3_
              have HO202 := n0_
              have HO208 := n1_
              have BK186 := n2_
              have HB := n3_
              clear n0_ n1_ n2_ n3_
              have hHeld : w27.cell? ⟨gb186, 0, none⟩ = some (.int .i64 x187000_4) ∧ w27.cell? ⟨gb186, 1, none⟩ = some (.int .i64 x187001_4) ∧ w27.cell? ⟨gb186, 2, none⟩ = some (.string x187002_4) := hS_
              refine norm_ (a' := ?_) ?_ ?_
              rotate_left
              · simp only [putAll, Act.put, List.setIfInBounds_toArray, List.set_cons_zero, List.set_cons_succ]
                rfl
              refine one_ (i := 3) (N := some 16) #[true, true, true, true, true, true, true, true, true, true, true, true, false, false, false, false] rfl rfl (one_of HT_.out (by kernel_rfl)) (by decide) (fun K hK => ?_)
              refine Kd.R_lit_step k81 _ 81 ?hg (N := 16) ?hd (xs := ([(⟨t187, t188, t189⟩ : S81), (⟨t190, t191, t192⟩ : S81)] : List (S81))) (inner := [.int .i64 t187, .int .i64 t188, .string t189, .int .i64 t190, .int .i64 t191, .string t192]) (ok := fun _ => True) (okp := fun _ => True) ?hr ?hp (fun _ hk => hk) trivial (Below.refl _ _) (Nat.le_refl _) (by simp) ?_; (case hd => rfl); (case hg => rfl); (case hr => first | (go_simp; done) | (go_simp; rfl)); (case hp => exact (Reps.c3 (show Kd.M k81 _ _ _ (⟨t187, t188, t189⟩ : S81) [.int .i64 t187, .int .i64 t188, .string t189] from (k81_mkM _ _ _ (⟨t187, t188, t189⟩ : S81) )) (Reps.c3 (show Kd.M k81 _ _ _ (⟨t190, t191, t192⟩ : S81) [.int .i64 t190, .int .i64 t191, .string t192] from (k81_mkM _ _ _ (⟨t190, t191, t192⟩ : S81) )) (Reps.none _ _))))
              intro v194 w28 ho29 hb hg_ hnew_
              clear hg_ hnew_
              (first | rw [← Ny193.out] at ho29 | (simp only [Int.reduceToNat] at ho29; rw [← Ny193.out] at ho29))
              have n0_ := Aside0.mk (Kd.R_elder' (by (with_reducible repeat (first | apply Kd.R_alloc | apply Kd.R_drewN | apply Kd.R_drew)); exact HO202.out) (Kd.R_base ho29) hb)
              have n1_ := Aside0.mk (Kd.R_elder' (by (with_reducible repeat (first | apply Kd.R_alloc | apply Kd.R_drewN | apply Kd.R_drew)); exact HO208.out) (Kd.R_base ho29) hb)
              have n2_ := Aside0.mk (Kd.R_lower (Kd.R_newB (Kd.R_new' (Kd.R_new' ho29 (Kd.R_lt (by (with_reducible repeat (first | apply Kd.R_alloc | apply Kd.R_drewN | apply Kd.R_drew)); exact HO202.out))) (Kd.R_lt (by (with_reducible repeat (first | apply Kd.R_alloc | apply Kd.R_drewN | apply Kd.R_drew)); exact HO208.out))) (g := gb186) (o := .cells #[.int .i64 x187000_4, .int .i64 x187001_4, .string x187002_4] 81 (0, 0)) (by (with_reducible repeat (first | refine blk_drewN ?_ _ | refine blk_drew ?_ | refine blk_alloc ?_ _)); exact BK186.out)) (below_size (by repeat (first | (with_reducible first | exact HB.out | apply below_alloc | apply pw_below_drewN | apply below_drew1 | refine below_set ?_ GE186.out) | exact HB.out))))
              have n3_ := Aside0.mk (blk_below (g := gb186) (o := .cells #[.int .i64 x187000_4, .int .i64 x187001_4, .string x187002_4] 81 (0, 0)) (by (with_reducible repeat (first | refine blk_drewN ?_ _ | refine blk_drew ?_ | refine blk_alloc ?_ _)); exact BK186.out) hb)
              have n4_ := Aside0.mk (below_step (by repeat (first | (with_reducible first | exact HB.out | apply below_alloc | apply pw_below_drewN | apply below_drew1 | refine below_set ?_ GE186.out) | exact HB.out)) hb)
              clear HO202
              clear HO208
              clear BK186
              clear HB
              have HO202 := n0_
              have HO208 := n1_
              have HO195 := n2_
              have BK186 := n3_
              have HB := n4_
              clear n0_ n1_ n2_ n3_ n4_
              clear hb ho29
              refine hK.out _ _ ⟨(blk_cell BK186.out 0).trans rfl, (blk_cell BK186.out 1).trans rfl, (blk_cell BK186.out 2).trans rfl⟩ (fun hHeld => ?_)
              clear hK K
              refine norm_ (a' := ?_) ?_ ?_
              rotate_left
              · show Act.put _ (some 16) _ = _
                simp only [Act.put, List.setIfInBounds_toArray, List.set_cons_zero, List.set_cons_succ, i64_w, i32_w]
                rfl
              exact norm_ (by first | (simp only [putAll, Act.put, List.setIfInBounds_toArray, List.set_cons_zero, List.set_cons_succ]; done) | (simp only [putAll, Act.put, List.setIfInBounds_toArray, List.set_cons_zero, List.set_cons_succ]; rfl)) (hJ3_4_6_8_9_11 (v194, v201, v207) _ ⟨hHeld, (by (with_reducible repeat (first | apply Kd.R_alloc | apply Kd.R_drewN | apply Kd.R_drew)); exact Kd.R_mono HO195.out (fun _ hk => ⟨hk.1.1.2, ⟨hk.1.2, hk.2⟩⟩)), (by (with_reducible repeat (first | apply Kd.R_alloc | apply Kd.R_drewN | apply Kd.R_drew)); exact Kd.R_mono HO202.out (fun _ hk => ⟨hk.2, ⟨hk.1.1, hk.1.2⟩⟩)), (by (with_reducible repeat (first | apply Kd.R_alloc | apply Kd.R_drewN | apply Kd.R_drew)); exact Kd.R_mono HO208.out (fun _ hk => ⟨hk.2, ⟨hk.1.1, hk.1.2⟩⟩)), (by (with_reducible repeat (first | refine blk_drewN ?_ _ | refine blk_drew ?_ | refine blk_alloc ?_ _)); exact BK186.out), (by repeat (first | (with_reducible first | exact HB.out | apply below_alloc | apply pw_below_drewN | apply below_drew1 | refine below_set ?_ GE186.out) | exact HB.out))⟩)
          · skip
            rintro ⟨v194, v207⟩ w27 ⟨hS_, h0_, h1_, h2_, h3_⟩
            have n0_ : Aside0 (Kd.R k81 81 w27 w.heap.size (fun k_ => some k_ ≠ (v207 : Value).ownBlock ∧ k_ ≠ gb186) v194 y193) := ⟨h0_⟩
            have n1_ : Aside0 (Kd.R k81 81 w27 w.heap.size (fun k_ => some k_ ≠ (v194 : Value).ownBlock ∧ k_ ≠ gb186) v207 y206) := ⟨h1_⟩
            have n2_ : Aside0 (w27.heap[gb186]? = some (.cells #[.int .i64 x187000_4, .int .i64 x187001_4, .string x187002_4] 81 (0, 0))) := ⟨h2_⟩
            have n3_ : Aside0 (Below w.heap.size w w27) := ⟨h3_⟩
            clear BK186
            clear HB
            clear h0_ h1_ h2_ h3_
            have HO195 := n0_
            have HO208 := n1_
            have BK186 := n2_
            have HB := n3_
            clear n0_ n1_ n2_ n3_
            have hHeld : w27.cell? ⟨gb186, 0, none⟩ = some (.int .i64 x187000_4) ∧ w27.cell? ⟨gb186, 1, none⟩ = some (.int .i64 x187001_4) ∧ w27.cell? ⟨gb186, 2, none⟩ = some (.string x187002_4) := hS_
            refine norm_ (a' := ?_) ?_ ?_
            rotate_left
            · simp only [putAll, Act.put, List.setIfInBounds_toArray, List.set_cons_zero, List.set_cons_succ]
              rfl
            refine one_ (i := 8) (N := some 21) #[true, true, true, true, true, true, true, true, true, true, true, true, false, false, false, false] rfl rfl (one_of HT_.out (by kernel_rfl)) (by decide) (fun K hK => ?_)
            refine Kd.R_lit_step k81 _ 81 ?hg (N := 21) ?hd (xs := ([(⟨t196, t197, t198⟩ : S81), (⟨2, t199, (⟨#[]⟩ : ByteArray)⟩ : S81)] : List (S81))) (inner := [.int .i64 t196, .int .i64 t197, .string t198, .int .i64 2, .int .i64 t199, .string (⟨#[]⟩ : ByteArray)]) (ok := fun _ => True) (okp := fun _ => True) ?hr ?hp (fun _ hk => hk) trivial (Below.refl _ _) (Nat.le_refl _) (by simp) ?_; (case hd => rfl); (case hg => rfl); (case hr => first | (go_simp; done) | (go_simp; rfl)); (case hp => exact (Reps.c3 (show Kd.M k81 _ _ _ (⟨t196, t197, t198⟩ : S81) [.int .i64 t196, .int .i64 t197, .string t198] from (k81_mkM _ _ _ (⟨t196, t197, t198⟩ : S81) )) (Reps.c3 (show Kd.M k81 _ _ _ (⟨2, t199, (⟨#[]⟩ : ByteArray)⟩ : S81) [.int .i64 2, .int .i64 t199, .string (⟨#[]⟩ : ByteArray)] from (k81_mkM _ _ _ (⟨2, t199, (⟨#[]⟩ : ByteArray)⟩ : S81) )) (Reps.none _ _))))
            intro v201 w28 ho29 hb hg_ hnew_
            clear hg_ hnew_
            (first | rw [← Ny200.out] at ho29 | (simp only [Int.reduceToNat] at ho29; rw [← Ny200.out] at ho29))
            have n0_ := Aside0.mk (Kd.R_elder' (by (with_reducible repeat (first | apply Kd.R_alloc | apply Kd.R_drewN | apply Kd.R_drew)); exact HO195.out) (Kd.R_base ho29) hb)
            have n1_ := Aside0.mk (Kd.R_elder' (by (with_reducible repeat (first | apply Kd.R_alloc | apply Kd.R_drewN | apply Kd.R_drew)); exact HO208.out) (Kd.R_base ho29) hb)
            have n2_ := Aside0.mk (Kd.R_lower (Kd.R_newB (Kd.R_new' (Kd.R_new' ho29 (Kd.R_lt (by (with_reducible repeat (first | apply Kd.R_alloc | apply Kd.R_drewN | apply Kd.R_drew)); exact HO195.out))) (Kd.R_lt (by (with_reducible repeat (first | apply Kd.R_alloc | apply Kd.R_drewN | apply Kd.R_drew)); exact HO208.out))) (g := gb186) (o := .cells #[.int .i64 x187000_4, .int .i64 x187001_4, .string x187002_4] 81 (0, 0)) (by (with_reducible repeat (first | refine blk_drewN ?_ _ | refine blk_drew ?_ | refine blk_alloc ?_ _)); exact BK186.out)) (below_size (by repeat (first | (with_reducible first | exact HB.out | apply below_alloc | apply pw_below_drewN | apply below_drew1 | refine below_set ?_ GE186.out) | exact HB.out))))
            have n3_ := Aside0.mk (blk_below (g := gb186) (o := .cells #[.int .i64 x187000_4, .int .i64 x187001_4, .string x187002_4] 81 (0, 0)) (by (with_reducible repeat (first | refine blk_drewN ?_ _ | refine blk_drew ?_ | refine blk_alloc ?_ _)); exact BK186.out) hb)
            have n4_ := Aside0.mk (below_step (by repeat (first | (with_reducible first | exact HB.out | apply below_alloc | apply pw_below_drewN | apply below_drew1 | refine below_set ?_ GE186.out) | exact HB.out)) hb)
            clear HO195
            clear HO208
            clear BK186
            clear HB
            have HO195 := n0_
            have HO208 := n1_
            have HO202 := n2_
            have BK186 := n3_
            have HB := n4_
            clear n0_ n1_ n2_ n3_ n4_
            clear hb ho29
            refine hK.out _ _ ⟨(blk_cell BK186.out 0).trans rfl, (blk_cell BK186.out 1).trans rfl, (blk_cell BK186.out 2).trans rfl⟩ (fun hHeld => ?_)
            clear hK K
            refine norm_ (a' := ?_) ?_ ?_
            rotate_left
            · show Act.put _ (some 21) _ = _
              simp only [Act.put, List.setIfInBounds_toArray, List.set_cons_zero, List.set_cons_succ, i64_w, i32_w]
              rfl
            exact norm_ (by first | (simp only [putAll, Act.put, List.setIfInBounds_toArray, List.set_cons_zero, List.set_cons_succ]; done) | (simp only [putAll, Act.put, List.setIfInBounds_toArray, List.set_cons_zero, List.set_cons_succ]; rfl)) (hJ3_4_6_8_9_11 (v194, v201, v207) _ ⟨hHeld, (by (with_reducible repeat (first | apply Kd.R_alloc | apply Kd.R_drewN | apply Kd.R_drew)); exact Kd.R_mono HO195.out (fun _ hk => ⟨hk.2, ⟨hk.1.1, hk.1.2⟩⟩)), (by (with_reducible repeat (first | apply Kd.R_alloc | apply Kd.R_drewN | apply Kd.R_drew)); exact Kd.R_mono HO202.out (fun _ hk => ⟨hk.1.1.2, ⟨hk.1.2, hk.2⟩⟩)), (by (with_reducible repeat (first | apply Kd.R_alloc | apply Kd.R_drewN | apply Kd.R_drew)); exact Kd.R_mono HO208.out (fun _ hk => ⟨hk.1.1, ⟨hk.2, hk.1.2⟩⟩)), (by (with_reducible repeat (first | refine blk_drewN ?_ _ | refine blk_drew ?_ | refine blk_alloc ?_ _)); exact BK186.out), (by repeat (first | (with_reducible first | exact HB.out | apply below_alloc | apply pw_below_drewN | apply below_drew1 | refine below_set ?_ GE186.out) | exact HB.out))⟩)
        · skip
          rintro ⟨v194, v201⟩ w27 ⟨hS_, h0_, h1_, h2_, h3_⟩
          have n0_ : Aside0 (Kd.R k81 81 w27 w.heap.size (fun k_ => some k_ ≠ (v201 : Value).ownBlock ∧ k_ ≠ gb186) v194 y193) := ⟨h0_⟩
          have n1_ : Aside0 (Kd.R k81 81 w27 w.heap.size (fun k_ => some k_ ≠ (v194 : Value).ownBlock ∧ k_ ≠ gb186) v201 y200) := ⟨h1_⟩
          have n2_ : Aside0 (w27.heap[gb186]? = some (.cells #[.int .i64 x187000_4, .int .i64 x187001_4, .string x187002_4] 81 (0, 0))) := ⟨h2_⟩
          have n3_ : Aside0 (Below w.heap.size w w27) := ⟨h3_⟩
          clear BK186
          clear HB
          clear h0_ h1_ h2_ h3_
          have HO195 := n0_
          have HO202 := n1_
          have BK186 := n2_
          have HB := n3_
          clear n0_ n1_ n2_ n3_
          have hHeld : w27.cell? ⟨gb186, 0, none⟩ = some (.int .i64 x187000_4) ∧ w27.cell? ⟨gb186, 1, none⟩ = some (.int .i64 x187001_4) ∧ w27.cell? ⟨gb186, 2, none⟩ = some (.string x187002_4) := hS_
          refine norm_ (a' := ?_) ?_ ?_
          rotate_left
          · simp only [putAll, Act.put, List.setIfInBounds_toArray, List.set_cons_zero, List.set_cons_succ]
            rfl
          refine one_ (i := 11) (N := some 24) #[true, true, true, true, true, true, true, true, true, true, true, true, false, false, false, false] rfl rfl (one_of HT_.out (by kernel_rfl)) (by decide) (fun K hK => ?_)
          refine Kd.R_lit_step k81 _ 81 ?hg (N := 24) ?hd (xs := ([(⟨t203, t204, t205⟩ : S81), (⟨x187000_4, x187001_4, x187002_4⟩ : S81)] : List (S81))) (inner := [.int .i64 t203, .int .i64 t204, .string t205, .int .i64 x187000_4, .int .i64 x187001_4, .string x187002_4]) (ok := fun _ => True) (okp := fun _ => True) ?hr ?hp (fun _ hk => hk) trivial (Below.refl _ _) (Nat.le_refl _) (by simp) ?_; (case hd => rfl); (case hg => rfl); (case hr => first | (go_simp; done) | (go_simp; rfl)); (case hp => exact (Reps.c3 (show Kd.M k81 _ _ _ (⟨t203, t204, t205⟩ : S81) [.int .i64 t203, .int .i64 t204, .string t205] from (k81_mkM _ _ _ (⟨t203, t204, t205⟩ : S81) )) (Reps.c3 (show Kd.M k81 _ _ _ (⟨x187000_4, x187001_4, x187002_4⟩ : S81) [.int .i64 x187000_4, .int .i64 x187001_4, .string x187002_4] from (k81_mkM _ _ _ (⟨x187000_4, x187001_4, x187002_4⟩ : S81) )) (Reps.none _ _))))
          intro v207 w28 ho29 hb hg_ hnew_
          clear hg_ hnew_
          (first | rw [← Ny206.out] at ho29 | (simp only [Int.reduceToNat] at ho29; rw [← Ny206.out] at ho29))
          have n0_ := Aside0.mk (Kd.R_elder' (by (with_reducible repeat (first | apply Kd.R_alloc | apply Kd.R_drewN | apply Kd.R_drew)); exact HO195.out) (Kd.R_base ho29) hb)
          have n1_ := Aside0.mk (Kd.R_elder' (by (with_reducible repeat (first | apply Kd.R_alloc | apply Kd.R_drewN | apply Kd.R_drew)); exact HO202.out) (Kd.R_base ho29) hb)
          have n2_ := Aside0.mk (Kd.R_lower (Kd.R_newB (Kd.R_new' (Kd.R_new' ho29 (Kd.R_lt (by (with_reducible repeat (first | apply Kd.R_alloc | apply Kd.R_drewN | apply Kd.R_drew)); exact HO195.out))) (Kd.R_lt (by (with_reducible repeat (first | apply Kd.R_alloc | apply Kd.R_drewN | apply Kd.R_drew)); exact HO202.out))) (g := gb186) (o := .cells #[.int .i64 x187000_4, .int .i64 x187001_4, .string x187002_4] 81 (0, 0)) (by (with_reducible repeat (first | refine blk_drewN ?_ _ | refine blk_drew ?_ | refine blk_alloc ?_ _)); exact BK186.out)) (below_size (by repeat (first | (with_reducible first | exact HB.out | apply below_alloc | apply pw_below_drewN | apply below_drew1 | refine below_set ?_ GE186.out) | exact HB.out))))
          have n3_ := Aside0.mk (blk_below (g := gb186) (o := .cells #[.int .i64 x187000_4, .int .i64 x187001_4, .string x187002_4] 81 (0, 0)) (by (with_reducible repeat (first | refine blk_drewN ?_ _ | refine blk_drew ?_ | refine blk_alloc ?_ _)); exact BK186.out) hb)
          have n4_ := Aside0.mk (below_step (by repeat (first | (with_reducible first | exact HB.out | apply below_alloc | apply pw_below_drewN | apply below_drew1 | refine below_set ?_ GE186.out) | exact HB.out)) hb)
          clear HO195
          clear HO202
          clear BK186
          clear HB
          have HO195 := n0_
          have HO202 := n1_
          have HO208 := n2_
          have BK186 := n3_
          have HB := n4_
          clear n0_ n1_ n2_ n3_ n4_
          clear hb ho29
          refine hK.out _ _ ⟨(blk_cell BK186.out 0).trans rfl, (blk_cell BK186.out 1).trans rfl, (blk_cell BK186.out 2).trans rfl⟩ (fun hHeld => ?_)
          clear hK K
          refine norm_ (a' := ?_) ?_ ?_
          rotate_left
          · show Act.put _ (some 24) _ = _
            simp only [Act.put, List.setIfInBounds_toArray, List.set_cons_zero, List.set_cons_succ, i64_w, i32_w]
            rfl
          exact norm_ (by first | (simp only [putAll, Act.put, List.setIfInBounds_toArray, List.set_cons_zero, List.set_cons_succ]; done) | (simp only [putAll, Act.put, List.setIfInBounds_toArray, List.set_cons_zero, List.set_cons_succ]; rfl)) (hJ3_4_6_8_9_11 (v194, v201, v207) _ ⟨hHeld, (by (with_reducible repeat (first | apply Kd.R_alloc | apply Kd.R_drewN | apply Kd.R_drew)); exact Kd.R_mono HO195.out (fun _ hk => ⟨hk.1.1, ⟨hk.2, hk.1.2⟩⟩)), (by (with_reducible repeat (first | apply Kd.R_alloc | apply Kd.R_drewN | apply Kd.R_drew)); exact Kd.R_mono HO202.out (fun _ hk => ⟨hk.1.1, ⟨hk.2, hk.1.2⟩⟩)), (by (with_reducible repeat (first | apply Kd.R_alloc | apply Kd.R_drewN | apply Kd.R_drew)); exact Kd.R_mono HO208.out (fun _ hk => ⟨hk.1.1.2, ⟨hk.1.2, hk.2⟩⟩)), (by (with_reducible repeat (first | refine blk_drewN ?_ _ | refine blk_drew ?_ | refine blk_alloc ?_ _)); exact BK186.out), (by repeat (first | (with_reducible first | exact HB.out | apply below_alloc | apply pw_below_drewN | apply below_drew1 | refine below_set ?_ GE186.out) | exact HB.out))⟩)
      rintro ⟨v194, v201, v207⟩ w29 ⟨hS_, h0_, h1_, h2_, h3_, h4_⟩
      have n0_ : Aside0 (Kd.R k81 81 w29 w.heap.size (fun k_ => some k_ ≠ (v201 : Value).ownBlock ∧ some k_ ≠ (v207 : Value).ownBlock ∧ k_ ≠ gb186) v194 y193) := ⟨h0_⟩
      have n1_ : Aside0 (Kd.R k81 81 w29 w.heap.size (fun k_ => some k_ ≠ (v194 : Value).ownBlock ∧ some k_ ≠ (v207 : Value).ownBlock ∧ k_ ≠ gb186) v201 y200) := ⟨h1_⟩
      have n2_ : Aside0 (Kd.R k81 81 w29 w.heap.size (fun k_ => some k_ ≠ (v194 : Value).ownBlock ∧ some k_ ≠ (v201 : Value).ownBlock ∧ k_ ≠ gb186) v207 y206) := ⟨h2_⟩
      have n3_ : Aside0 (w29.heap[gb186]? = some (.cells #[.int .i64 x187000_4, .int .i64 x187001_4, .string x187002_4] 81 (0, 0))) := ⟨h3_⟩
      have n4_ : Aside0 (Below w.heap.size w w29) := ⟨h4_⟩
      clear BK186
      clear HB
      clear h0_ h1_ h2_ h3_ h4_
      have HO195 := n0_
      have HO202 := n1_
      have HO208 := n2_
      have BK186 := n3_
      have HB := n4_
      clear n0_ n1_ n2_ n3_ n4_
      have hHeld : w29.cell? ⟨gb186, 0, none⟩ = some (.int .i64 x187000_4) ∧ w29.cell? ⟨gb186, 1, none⟩ = some (.int .i64 x187001_4) ∧ w29.cell? ⟨gb186, 2, none⟩ = some (.string x187002_4) := hS_
      obtain ⟨Ao30, co30, eo30⟩ := Kd.R_slice HO195.out
      (first | subst eo30 | (injection eo30 with f1_ f2_ f3_; have f4_ := f1_.symm; have f5_ := f3_.symm; clear f1_ f2_ f3_; subst f4_; subst f5_))
      obtain ⟨Ao31, co31, eo31⟩ := Kd.R_slice HO202.out
      (first | subst eo31 | (injection eo31 with f1_ f2_ f3_; have f4_ := f1_.symm; have f5_ := f3_.symm; clear f1_ f2_ f3_; subst f4_; subst f5_))
      obtain ⟨Ao32, co32, eo32⟩ := Kd.R_slice HO208.out
      (first | subst eo32 | (injection eo32 with f1_ f2_ f3_; have f4_ := f1_.symm; have f5_ := f3_.symm; clear f1_ f2_ f3_; subst f4_; subst f5_))
      refine norm_ (a' := ?_) ?_ ?_
      rotate_left
      · simp only [putAll, Act.put, List.setIfInBounds_toArray, List.set_cons_zero, List.set_cons_succ]
        rfl
      refine one_ (i := 12) (N := some 25) #[true, true, true, true, true, true, true, true, true, true, true, true, true, false, false, false] rfl rfl (one_of HT_.out (by kernel_rfl)) (by decide) (fun K hK => ?_)
      refine Kd.N_lit_step (Kd.slice 81 k81) _ 44 ?hg (N' := 25) ?hd (xs := ([y193, y200, y206] : List (List (S81)))) (inner := [.slice Ao30 y193.length co30, .slice Ao31 y200.length co31, .slice Ao32 y206.length co32]) (ok := (fun k_ => k_ ≠ gb186)) (okp := (fun k_ => k_ ≠ gb186)) ?hr ?hp (fun _ hk => hk) ((show ∀ k_, w29.heap.size ≤ k_ → (fun k_ => k_ ≠ gb186) k_ from fun k_ hk => Kd.freshB (g := gb186) (o := .cells #[.int .i64 x187000_4, .int .i64 x187001_4, .string x187002_4] 81 (0, 0)) (by (with_reducible repeat (first | refine blk_drewN ?_ _ | refine blk_drew ?_ | refine blk_alloc ?_ _)); exact BK186.out) k_ hk) _ (Nat.le_refl _)) (Below.refl _ _) (Nat.le_refl _) (by simp) ?_; (case hd => rfl); (case hg => rfl); (case hr => first | (go_simp; done) | (go_simp; rfl)); (case hp => exact (Reps.one (show Kd.FK (Kd.slice 81 k81) _ _ y193 [.slice Ao30 y193.length co30] from (Kd.FK_slice_mk (Kd.R_reads' (Kd.R_mono (ok' := (fun k_ => k_ ≠ gb186)) (HO195.out) (fun k_ hk => hk.2.2))).2.1 (Kd.R_F (Kd.R_mono (ok' := (fun k_ => k_ ≠ gb186)) (HO195.out) (fun k_ hk => hk.2.2))))) (Reps.one (show Kd.FK (Kd.slice 81 k81) _ _ y200 [.slice Ao31 y200.length co31] from (Kd.FK_slice_mk (Kd.R_reads' (Kd.R_mono (ok' := (fun k_ => k_ ≠ gb186)) (HO202.out) (fun k_ hk => hk.2.2))).2.1 (Kd.R_F (Kd.R_mono (ok' := (fun k_ => k_ ≠ gb186)) (HO202.out) (fun k_ hk => hk.2.2))))) (Reps.one (show Kd.FK (Kd.slice 81 k81) _ _ y206 [.slice Ao32 y206.length co32] from (Kd.FK_slice_mk (Kd.R_reads' (Kd.R_mono (ok' := (fun k_ => k_ ≠ gb186)) (HO208.out) (fun k_ hk => hk.2.2))).2.1 (Kd.R_F (Kd.R_mono (ok' := (fun k_ => k_ ≠ gb186)) (HO208.out) (fun k_ hk => hk.2.2))))) (Reps.none _ _)))))
      intro v210 w33 ho34 hb hg_ hnew_
      clear hg_ hnew_
      (first | rw [← Ny209.out] at ho34 | (simp only [Int.reduceToNat] at ho34; rw [← Ny209.out] at ho34))
      have n0_ := Aside0.mk (Kd.N_lower ho34 (below_size (by repeat (first | (with_reducible first | exact HB.out | apply below_alloc | apply pw_below_drewN | apply below_drew1 | refine below_set ?_ GE186.out) | exact HB.out))))
      have n1_ := Aside0.mk (blk_below (g := gb186) (o := .cells #[.int .i64 x187000_4, .int .i64 x187001_4, .string x187002_4] 81 (0, 0)) (by (with_reducible repeat (first | refine blk_drewN ?_ _ | refine blk_drew ?_ | refine blk_alloc ?_ _)); exact BK186.out) hb)
      have n2_ := Aside0.mk (below_step (by repeat (first | (with_reducible first | exact HB.out | apply below_alloc | apply pw_below_drewN | apply below_drew1 | refine below_set ?_ GE186.out) | exact HB.out)) hb)
      clear BK186
      clear HB
      clear HO195
      clear HO202
      clear HO208
      have HO211 := n0_
      have BK186 := n1_
      have HB := n2_
      clear n0_ n1_ n2_
      clear hb ho34
      obtain ⟨Ao35, co35, eo35⟩ := Kd.N_slice HO211.out
      (first | subst eo35 | (injection eo35 with f1_ f2_ f3_; have f4_ := f1_.symm; have f5_ := f3_.symm; clear f1_ f2_ f3_; subst f4_; subst f5_))
      refine hK.out _ _ ⟨(blk_cell BK186.out 0).trans rfl, (blk_cell BK186.out 1).trans rfl, (blk_cell BK186.out 2).trans rfl⟩ (fun hHeld => ?_)
      clear hK K
      refine norm_ (a' := ?_) ?_ ?_
      rotate_left
      · show Act.put _ (some 25) _ = _
        simp only [Act.put, List.setIfInBounds_toArray, List.set_cons_zero, List.set_cons_succ, i64_w, i32_w]
        rfl
      refine one_ (i := 13) (N := some 26) #[true, true, true, true, true, true, true, true, true, true, true, true, true, true, false, false] rfl rfl (one_of HT_.out (by kernel_rfl)) (by decide) (fun K hK => ?_)
      refine goes_ Tryd.func74 (by kernel_rfl) rfl #[.slice Ao35 y209.length co35] (by rfl) rfl rfl (by (try simp only [List.map_toArray, List.map_cons, List.map_nil]); first | done | rfl | (simp only [List.length_drop, List.length_take]; rfl)) ?_
      with_reducible refine (impl_message.calls kj4 _ _ y209 t212 _ ?side1 ?side2 A16.out).mono ?_
      (case side1 => repeat (first | exact (Kd.N_reads' HO211.out).2.2 | (with_reducible refine Kd.C_alloc ?_ _) | (with_reducible refine Kd.C_drewN ?_ _) | (with_reducible refine Kd.C_drew ?_)))
      (case side2 => exact (Kd.N_reads' HO211.out).2.1)
      rintro e w36 ⟨v213, rfl, ho0, hb⟩
      refine ⟨_, rfl, ?_⟩
      have n0_ := Aside0.mk (Kd.N_elder' (by (with_reducible repeat (first | apply Kd.N_alloc | apply Kd.N_drewN | apply Kd.N_drew)); exact HO211.out) (Kd.R_base ho0) hb)
      have n1_ := Aside0.mk (Kd.R_lower (Kd.R_newB ho0 (g := gb186) (o := .cells #[.int .i64 x187000_4, .int .i64 x187001_4, .string x187002_4] 81 (0, 0)) (by (with_reducible repeat (first | refine blk_drewN ?_ _ | refine blk_drew ?_ | refine blk_alloc ?_ _)); exact BK186.out)) (below_size (by repeat (first | (with_reducible first | exact HB.out | apply below_alloc | apply pw_below_drewN | apply below_drew1 | refine below_set ?_ GE186.out) | exact HB.out))))
      have n2_ := Aside0.mk (blk_below (g := gb186) (o := .cells #[.int .i64 x187000_4, .int .i64 x187001_4, .string x187002_4] 81 (0, 0)) (by (with_reducible repeat (first | refine blk_drewN ?_ _ | refine blk_drew ?_ | refine blk_alloc ?_ _)); exact BK186.out) hb)
      have n3_ := Aside0.mk (below_step (by repeat (first | (with_reducible first | exact HB.out | apply below_alloc | apply pw_below_drewN | apply below_drew1 | refine below_set ?_ GE186.out) | exact HB.out)) hb)
      clear HO211
      clear BK186
      clear HB
      have HO211 := n0_
      have HO214 := n1_
      have BK186 := n2_
      have HB := n3_
      clear n0_ n1_ n2_ n3_
      (try clear hb)
      (try clear hb2)
      (try clear hk)
      (try clear hi)
      (try clear ho0)
      obtain ⟨Ao37, co37, eo37⟩ := Kd.R_slice HO214.out
      (first | subst eo37 | (injection eo37 with f1_ f2_ f3_; have f4_ := f1_.symm; have f5_ := f3_.symm; clear f1_ f2_ f3_; subst f4_; subst f5_))
      refine hK.out _ _ ⟨(blk_cell BK186.out 0).trans rfl, (blk_cell BK186.out 1).trans rfl, (blk_cell BK186.out 2).trans rfl⟩ (fun hHeld => ?_)
      clear hK K
      refine norm_ (a' := ?_) ?_ ?_
      rotate_left
      · show Act.put _ (some 26) _ = _
        simp only [Act.put, List.setIfInBounds_toArray, List.set_cons_zero, List.set_cons_succ, i64_w, i32_w]
        rfl
      refine one_ (i := 14) (N := some 27) #[true, true, true, true, true, true, true, true, true, true, true, true, true, true, true, false] rfl rfl (one_of HT_.out (by kernel_rfl)) (by decide) (fun K hK => ?_)
      refine goes_ Tryd.func53 (by kernel_rfl) rfl #[.slice Ao37 t212.length co37] (by rfl) rfl rfl (by (try simp only [List.map_toArray, List.map_cons, List.map_nil]); first | done | rfl | (simp only [List.length_drop, List.length_take]; rfl)) ?_
      with_reducible refine (impl_printed.calls _ _ t212 t215 _ ?side1 ?side2 A17.out (hV.below (by repeat (first | (with_reducible first | exact HB.out | apply below_alloc | apply pw_below_drewN | apply below_drew1 | refine below_set ?_ GE186.out) | exact HB.out)))).mono ?_
      (case side1 => repeat (first | exact (Kd.R_reads' HO214.out).2.2 | (with_reducible refine Kd.C_alloc ?_ _) | (with_reducible refine Kd.C_drewN ?_ _) | (with_reducible refine Kd.C_drew ?_)))
      (case side2 => exact (Kd.R_reads' HO214.out).2.1)
      rintro e w38 ⟨rfl, hb⟩
      refine ⟨_, rfl, ?_⟩
      have n0_ := Aside0.mk (Kd.N_below (by (with_reducible repeat (first | apply Kd.N_alloc | apply Kd.N_drewN | apply Kd.N_drew)); exact HO211.out) hb)
      have n1_ := Aside0.mk (Kd.R_below (by (with_reducible repeat (first | apply Kd.R_alloc | apply Kd.R_drewN | apply Kd.R_drew)); exact HO214.out) hb)
      have n2_ := Aside0.mk (blk_below (g := gb186) (o := .cells #[.int .i64 x187000_4, .int .i64 x187001_4, .string x187002_4] 81 (0, 0)) (by (with_reducible repeat (first | refine blk_drewN ?_ _ | refine blk_drew ?_ | refine blk_alloc ?_ _)); exact BK186.out) hb)
      have n3_ := Aside0.mk (below_step (by repeat (first | (with_reducible first | exact HB.out | apply below_alloc | apply pw_below_drewN | apply below_drew1 | refine below_set ?_ GE186.out) | exact HB.out)) hb)
      clear HO211
      clear HO214
      clear BK186
      clear HB
      have HO211 := n0_
      have HO214 := n1_
      have BK186 := n2_
      have HB := n3_
      clear n0_ n1_ n2_ n3_
      (try clear hb)
      (try clear hb2)
      (try clear hk)
      (try clear hi)
      refine hK.out _ _ ⟨(blk_cell BK186.out 0).trans rfl, (blk_cell BK186.out 1).trans rfl, (blk_cell BK186.out 2).trans rfl⟩ (fun hHeld => ?_)
      clear hK K
      refine norm_ (a' := ?_) ?_ ?_
      rotate_left
      · show Act.put _ (some 27) _ = _
        simp only [Act.put, List.setIfInBounds_toArray, List.set_cons_zero, List.set_cons_succ, i64_w, i32_w]
        rfl
      refine pure_ (i := 15) (N := some 6) (v := ?_) (a' := ?_) #[true, true, true, true, true, true, true, true, true, true, true, true, true, true, true, true] rfl rfl (any_of HT_.out (by kernel_rfl)) (fun _ _ _ h => h) (Or.inl ⟨by rfl, ?_⟩) ?_ ?_
      rotate_left
      · intro w'
        go_simp
        with_reducible rfl
      rotate_left
      · simp only [Act.put, List.setIfInBounds_toArray, List.set_cons_zero, List.set_cons_succ, i64_w, i32_w]
        rfl
      refine done_ (done_of HT_.out (by kernel_rfl)) ?_
      try go_wp2
      go_ret
      exact ⟨by first | rfl | (simp [errW_none, errW_some] <;> rfl) | (simp [*, errW_none, errW_some] <;> rfl), by repeat (first | (with_reducible first | exact HB.out | apply below_alloc | apply pw_below_drewN | apply below_drew1 | refine below_set ?_ GE186.out) | exact HB.out)⟩

end Go.Proofs.YthjlbpgiaehjnaaDoor.QFnExactReplyText
