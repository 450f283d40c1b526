-- written by this session's program (wip/tools/myprint.py)
import Derived.Test.YthjlbpgiaehjnaaQFnExactReadTxx0
import Derived.Test.YthjlbpgiaehjnaaQFnExactReadTxx4
import Derived.Test.YthjlbpgiaehjnaaQFnExactReadTxx8
import Derived.Test.YthjlbpgiaehjnaaQFnExactReadTxx10
import Derived.Test.YthjlbpgiaehjnaaQFnExactReadTxx11
namespace Go.Proofs.Ythjlbpgiaehjnaa.QFnExactReadTx
open Go.RowKit Go.Proofs.YthjlbpgiaehjnaaW.PrintWords Go.Proofs.YthjlbpgiaehjnaaW.PrintLast Go.Proofs.YthjlbpgiaehjnaaW.PrintMore
attribute [local go_sem] max2_int min2_int max_two min_two max_three min_three max_four min_four   -- for this text's walks alone
set_option linter.unusedVariables false
set_option linter.unusedSimpArgs false

/-! ### laws_FnExactReadTx: function 5 (by hand: the law) -/
def laws_FnExactReadTx.f (k : Nat) (l0 : List Int) : Option Bool :=
  if (l0.length : Int) > 1048576 then some true else
  (laws_toByteS.f k l0).bind fun t1 => (spec_ReadTx.f k t1).bind fun s => (laws_toByteS.f k l0).bind fun t2 => (impl_ReadTx.f k t2).bind fun g =>
  (laws_eqTxResult.f k g.1 g.2.1 g.2.2.1 g.2.2.2.1 g.2.2.2.2 s.1 s.2.1 s.2.2.1 s.2.2.2.1 s.2.2.2.2).bind fun b1 => if b1 = true then
  (laws_toByteS.f k l0).bind fun t3 => (laws_eqByteS.f k t2 t3).bind fun b2 => if b2 = true then
  (laws_markByteS.f k t2 1).bind fun mk => if mk.1 < 0 then none else
  (laws_eqTxResult.f k g.1 g.2.1 g.2.2.1 g.2.2.2.1 g.2.2.2.2 s.1 s.2.1 s.2.2.1 s.2.2.2.1 s.2.2.2.2).bind fun b3 => if b3 = true then
  (laws_markTxResult.f k g.2.1 g.2.2.1 g.2.2.2.1 1).bind fun mg =>
  (laws_heldTxResult.f k g.1 g.2.1 mg.2.1 mg.2.2 g.2.2.2.2 1).bind fun q => if q < 0 then none else if q = mg.1 then
  (laws_toByteS.f k l0).bind fun t4 => (impl_ReadTx.f k t4).bind fun hh => (laws_eqTxResult.f k hh.1 hh.2.1 hh.2.2.1 hh.2.2.2.1 hh.2.2.2.2 s.1 s.2.1 s.2.2.1 s.2.2.2.1 s.2.2.2.2).bind fun b4 => if b4 = true then
  (laws_heldTxResult.f k g.1 g.2.1 mg.2.1 mg.2.2 g.2.2.2.2 1).bind fun q2 => if q2 < 0 then none else if q2 = mg.1 then some true else none
  else none else none else none else none else none
set_option maxHeartbeats 8000000 in
set_option maxRecDepth 100000 in
theorem laws_FnExactReadTx.calls (k : Nat) (A0 : Option Addr) (c0 : Nat) (l0 : List Int) (r : Bool) (w : World) (hr0 : Kd.C (Kd.int .u8) w A0 l0.length l0) (hc0 : l0.length ≤ c0) (h : laws_FnExactReadTx.f k l0 = some r) :
    Calls Try.prog 5 #[.slice A0 l0.length c0] w fun e w' => e = .returned (.bool r) ∧ Below w.heap.size w w' := by
  have hu50 := Try.underlying50
  have hu22 := Try.underlying22
  unfold laws_FnExactReadTx.f at h
  by_cases c1 : (l0.length : Int) > 1048576
  · rw [if_pos c1] at h
    cases h
    have c1b : decide ((l0.length : Int) > 1048576) = true := decide_eq_true c1
    have c1c : decide ((1048576 : Int) < l0.length) = true := decide_eq_true c1
    clear c1
    go_enter Try.func5, Try.ntmps5
    go_wp2
    go_ret
    exact ⟨rfl, Below.refl _ _⟩
  rw [if_neg c1] at h
  have c1b : decide ((l0.length : Int) > 1048576) = false := decide_eq_false c1
  have c1c : decide ((1048576 : Int) < l0.length) = false := decide_eq_false c1
  clear c1
  obtain ⟨t1, H1_, h⟩ := Option.bind_eq_some_iff.mp h
  have H1 := Aside0.mk H1_
  clear H1_
  obtain ⟨⟨s1, s2, s3, s4, s5⟩, H2_, h⟩ := Option.bind_eq_some_iff.mp h
  have H2 := Aside0.mk H2_
  clear H2_
  obtain ⟨t2, H3_, h⟩ := Option.bind_eq_some_iff.mp h
  have H3 := Aside0.mk H3_
  clear H3_
  obtain ⟨⟨g1, g2, g3, g4, g5⟩, H4_, h⟩ := Option.bind_eq_some_iff.mp h
  have H4 := Aside0.mk H4_
  clear H4_
  obtain ⟨b1, H5_, h⟩ := Option.bind_eq_some_iff.mp h
  have H5 := Aside0.mk H5_
  clear H5_
  by_cases hb1 : b1 = true
  case neg => rw [if_neg hb1] at h; cases h
  subst hb1
  rw [if_pos rfl] at h
  obtain ⟨t3, H6_, h⟩ := Option.bind_eq_some_iff.mp h
  have H6 := Aside0.mk H6_
  clear H6_
  obtain ⟨b2, H7_, h⟩ := Option.bind_eq_some_iff.mp h
  have H7 := Aside0.mk H7_
  clear H7_
  by_cases hb2 : b2 = true
  case neg => rw [if_neg hb2] at h; cases h
  subst hb2
  rw [if_pos rfl] at h
  obtain ⟨⟨mk1, mk2⟩, H8_, h⟩ := Option.bind_eq_some_iff.mp h
  have H8 := Aside0.mk H8_
  clear H8_
  by_cases hm0 : mk1 < 0
  case pos => rw [if_pos hm0] at h; cases h
  rw [if_neg hm0] at h
  have m0b : decide (mk1 < 0) = false := decide_eq_false hm0
  clear hm0
  obtain ⟨b3, H9_, h⟩ := Option.bind_eq_some_iff.mp h
  have H9 := Aside0.mk H9_
  clear H9_
  by_cases hb3 : b3 = true
  case neg => rw [if_neg hb3] at h; cases h
  subst hb3
  rw [if_pos rfl] at h
  obtain ⟨⟨m1, m2, m3⟩, H10_, h⟩ := Option.bind_eq_some_iff.mp h
  have H10 := Aside0.mk H10_
  clear H10_
  obtain ⟨q, H11_, h⟩ := Option.bind_eq_some_iff.mp h
  have H11 := Aside0.mk H11_
  clear H11_
  by_cases hq0 : q < 0
  case pos => rw [if_pos hq0] at h; cases h
  rw [if_neg hq0] at h
  have q0b : decide (q < 0) = false := decide_eq_false hq0
  clear hq0
  by_cases hq1 : q = m1
  case neg => rw [if_neg hq1] at h; cases h
  rw [if_pos hq1] at h
  have q1b : (q != m1) = false := bne_eq_false_iff_eq.2 hq1
  clear hq1
  obtain ⟨t4, H12_, h⟩ := Option.bind_eq_some_iff.mp h
  have H12 := Aside0.mk H12_
  clear H12_
  obtain ⟨⟨h1, h2, h3, h4, h5⟩, H13_, h⟩ := Option.bind_eq_some_iff.mp h
  have H13 := Aside0.mk H13_
  clear H13_
  obtain ⟨b4, H14_, h⟩ := Option.bind_eq_some_iff.mp h
  have H14 := Aside0.mk H14_
  clear H14_
  by_cases hb4 : b4 = true
  case neg => rw [if_neg hb4] at h; cases h
  subst hb4
  rw [if_pos rfl] at h
  obtain ⟨q2, H15_, h⟩ := Option.bind_eq_some_iff.mp h
  have H15 := Aside0.mk H15_
  clear H15_
  by_cases hq2 : q2 < 0
  case pos => rw [if_pos hq2] at h; cases h
  rw [if_neg hq2] at h
  have q2b : decide (q2 < 0) = false := decide_eq_false hq2
  clear hq2
  by_cases hq3 : q2 = m1
  case neg => rw [if_neg hq3] at h; cases h
  rw [if_pos hq3] at h
  have q3b : (q2 != m1) = false := bne_eq_false_iff_eq.2 hq3
  clear hq3
  cases h
  dsimp only at H4 H5 H9 H10 H11 H13 H14 H15
  have HR := Aside0.mk hr0
  have HC := Aside0.mk hc0
  clear hr0 hc0
  go_enter Try.func5, Try.ntmps5
  go_wp2_with fail
  refine (laws_toByteS.calls k A0 c0 l0 t1 w HR.out HC.out H1.out).mono ?_
  rintro e w1 ⟨v1, rfl, ho1, hb1⟩
  obtain ⟨At1, ct1, rfl, hct1, hC1⟩ := Kd.R_reads ho1
  have HB1 := Aside0.mk hb1
  have HC1 := Aside0.mk hC1
  have HL1 := Aside0.mk hct1
  clear ho1 hb1 hC1 hct1
  go_wp2_with fail
  refine (spec_ReadTx.calls k At1 ct1 t1 s1 s2 s3 s4 s5 w1 HC1.out HL1.out H2.out).mono ?_
  rintro e w2 ⟨v2, v3, rfl, ho2, ho3, hb2⟩
  have ho2 := Kd.S_lower ho2 HB1.out.size
  have ho3 := Kd.S_lower ho3 HB1.out.size
  obtain ⟨As1, cs1, rfl, hl1, _⟩ := Kd.S_reads ho2
  obtain ⟨As2, cs2, rfl, hl2, _⟩ := Kd.S_reads ho3
  have HB2 := Aside0.mk (below_step HB1.out hb2)
  have HS1 := Aside0.mk ho2
  have HS2 := Aside0.mk ho3
  have HLS1 := Aside0.mk hl1
  have HLS2 := Aside0.mk hl2
  clear ho2 ho3 hb2 hl1 hl2
  go_wp2_with fail
  have hbA : Below w2.heap.size w2 (w2.alloc (.cells #[.int .i64 s1, .int .i64 s2, .slice As1 s3.length cs1, .slice As2 s4.length cs2, .int .i64 s5] 50 (0, 0))) := below_alloc (Below.refl _ _) _
  have n_ := Aside0.mk (below_step HB2.out hbA)
  clear HB2
  have HB2 := n_
  clear n_
  have n_ := Aside0.mk (Kd.S_below HS1.out hbA)
  clear HS1
  have HS1 := n_
  clear n_
  have n_ := Aside0.mk (Kd.S_below HS2.out hbA)
  clear HS2
  have HS2 := n_
  clear n_
  have HXw := Aside0.mk (show (w2.alloc (.cells #[.int .i64 s1, .int .i64 s2, .slice As1 s3.length cs1, .slice As2 s4.length cs2, .int .i64 s5] 50 (0, 0))).heap[w2.heap.size]? = some (.cells #[.int .i64 s1, .int .i64 s2, .slice As1 s3.length cs1, .slice As2 s4.length cs2, .int .i64 s5] 50 (0, 0)) by rw [World.alloc]; exact Array.getElem?_push_size)
  clear hbA
  generalize w2.alloc (.cells #[.int .i64 s1, .int .i64 s2, .slice As1 s3.length cs1, .slice As2 s4.length cs2, .int .i64 s5] 50 (0, 0)) = w3 at HB2 HS1 HS2 HXw ⊢
  generalize w2.heap.size = gw at HXw ⊢
  have HW3 := Aside0.mk (Below.size HB2.out)
  refine (laws_toByteS.calls k A0 c0 l0 t2 w3 (Kd.C_below HR.out HB2.out) HC.out H3.out).mono ?_
  rintro e w4 ⟨vx, rfl, hox, hb4⟩
  have n_ := Aside0.mk (below_step HB2.out hb4)
  clear HB2
  have HB2 := n_
  clear n_
  have n_ := Aside0.mk (Kd.S_below HS1.out hb4)
  clear HS1
  have HS1 := n_
  clear n_
  have n_ := Aside0.mk (Kd.S_below HS2.out hb4)
  clear HS2
  have HS2 := n_
  clear n_
  have n_ := Aside0.mk (blk_below HXw.out hb4)
  clear HXw
  have HXw := n_
  clear n_
  obtain ⟨Ax, cx, rfl, hcx, hCx⟩ := Kd.R_reads hox
  have HRx0 := Aside0.mk (Kd.R_lower (Kd.R_tight rfl hox) HW3.out)
  have HLx := Aside0.mk hcx
  clear hox hb4 hcx hCx
  go_wp2_with fail
  refine (impl_ReadTx.calls k Ax cx t2 g1 g2 g3 g4 g5 w4 (Kd.R_reads' HRx0.out).2.2 (Kd.R_reads' HRx0.out).2.1 H4.out).mono ?_
  rintro e w6 ⟨v4, v5, N_, rfl, ho4, ho5, hb6⟩
  have HM := Aside0.mk (Nat.le_refl w4.heap.size)
  have n_ := Aside0.mk (Kd.S_mono (ok' := fun k => k < w4.heap.size) (Kd.S_bound HS1.out) (fun _ h => h.2.2.1))
  clear HS1
  have HS1 := n_
  clear n_
  have n_ := Aside0.mk (Kd.S_mono (ok' := fun k => k < w4.heap.size) (Kd.S_bound HS2.out) (fun _ h => h.2.2.1))
  clear HS2
  have HS2 := n_
  clear n_
  have HWM := Aside0.mk (Below.size HB2.out)
  have n1_ := Kd.S_lower (Kd.S_mono (ok' := fun k => w4.heap.size ≤ k ∧ k < N_ ∧ k < w6.heap.size) (Kd.S_bound ho4) (fun _ h => ⟨h.2.1, h.1, h.2.2.1⟩)) HWM.out
  have n2_ := Kd.S_lower (Kd.S_mono (ok' := fun k => w4.heap.size ≤ k ∧ N_ ≤ k ∧ k < w6.heap.size) (Kd.S_bound ho5) (fun _ h => ⟨h.2.1, h.1, h.2.2.1⟩)) HWM.out
  have HLT := Aside0.mk (show gw < w4.heap.size from blk_lt HXw.out)
  have HXB := Aside0.mk (show ∀ k, some k = (Value.slice Ax t2.length cx).ownBlock → k < w4.heap.size from fun k hk => (Kd.R_lt HRx0.out k hk.symm))
  have n_ := Aside0.mk (below_step HB2.out hb6)
  clear HB2
  have HB2 := n_
  clear n_
  have n_ := Aside0.mk (Kd.S_below HS1.out hb6)
  clear HS1
  have HS1 := n_
  clear n_
  have n_ := Aside0.mk (Kd.S_below HS2.out hb6)
  clear HS2
  have HS2 := n_
  clear n_
  have n_ := Aside0.mk (blk_below HXw.out hb6)
  clear HXw
  have HXw := n_
  clear n_
  have n_ := Aside0.mk (Kd.R_below HRx0.out hb6)
  clear HRx0
  have HRx0 := n_
  clear n_
  have n_ := Aside0.mk (Nat.le_trans HM.out (Below.size hb6))
  clear HM
  have HM := n_
  clear n_
  obtain ⟨Ag1, cg1, rfl, _, _⟩ := Kd.S_reads n1_
  obtain ⟨Ag2, cg2, rfl, _, _⟩ := Kd.S_reads n2_
  have HG1 := Aside0.mk n1_
  have HG2 := Aside0.mk n2_
  clear n1_ n2_ ho4 ho5 hb6
  generalize w4.heap.size = M at HM HS1 HS2 HG1 HG2 HLT HXB HWM
  have hx6 : (w6.alloc (.cells #[.int .i64 g1, .int .i64 g2, .slice Ag1 g3.length cg1, .slice Ag2 g4.length cg2, .int .i64 g5] 50 (0, 0))).heap[w6.heap.size]? = some (.cells #[.int .i64 g1, .int .i64 g2, .slice Ag1 g3.length cg1, .slice Ag2 g4.length cg2, .int .i64 g5] 50 (0, 0)) := by rw [World.alloc]; exact Array.getElem?_push_size
  have cg_0 : (w6.alloc (.cells #[.int .i64 g1, .int .i64 g2, .slice Ag1 g3.length cg1, .slice Ag2 g4.length cg2, .int .i64 g5] 50 (0, 0))).cell? ⟨w6.heap.size, 0, none⟩ = some (.int .i64 g1) := (blk_cell hx6 0).trans rfl
  have cg_1 : (w6.alloc (.cells #[.int .i64 g1, .int .i64 g2, .slice Ag1 g3.length cg1, .slice Ag2 g4.length cg2, .int .i64 g5] 50 (0, 0))).cell? ⟨w6.heap.size, 1, none⟩ = some (.int .i64 g2) := (blk_cell hx6 1).trans rfl
  have cg_2 : (w6.alloc (.cells #[.int .i64 g1, .int .i64 g2, .slice Ag1 g3.length cg1, .slice Ag2 g4.length cg2, .int .i64 g5] 50 (0, 0))).cell? ⟨w6.heap.size, 2, none⟩ = some (.slice Ag1 g3.length cg1) := (blk_cell hx6 2).trans rfl
  have cg_3 : (w6.alloc (.cells #[.int .i64 g1, .int .i64 g2, .slice Ag1 g3.length cg1, .slice Ag2 g4.length cg2, .int .i64 g5] 50 (0, 0))).cell? ⟨w6.heap.size, 3, none⟩ = some (.slice Ag2 g4.length cg2) := (blk_cell hx6 3).trans rfl
  have cg_4 : (w6.alloc (.cells #[.int .i64 g1, .int .i64 g2, .slice Ag1 g3.length cg1, .slice Ag2 g4.length cg2, .int .i64 g5] 50 (0, 0))).cell? ⟨w6.heap.size, 4, none⟩ = some (.int .i64 g5) := (blk_cell hx6 4).trans rfl
  have cw_0 : (w6.alloc (.cells #[.int .i64 g1, .int .i64 g2, .slice Ag1 g3.length cg1, .slice Ag2 g4.length cg2, .int .i64 g5] 50 (0, 0))).cell? ⟨gw, 0, none⟩ = some (.int .i64 s1) := (blk_cell (blk_alloc HXw.out (.cells #[.int .i64 g1, .int .i64 g2, .slice Ag1 g3.length cg1, .slice Ag2 g4.length cg2, .int .i64 g5] 50 (0, 0))) 0).trans rfl
  have cw_1 : (w6.alloc (.cells #[.int .i64 g1, .int .i64 g2, .slice Ag1 g3.length cg1, .slice Ag2 g4.length cg2, .int .i64 g5] 50 (0, 0))).cell? ⟨gw, 1, none⟩ = some (.int .i64 s2) := (blk_cell (blk_alloc HXw.out (.cells #[.int .i64 g1, .int .i64 g2, .slice Ag1 g3.length cg1, .slice Ag2 g4.length cg2, .int .i64 g5] 50 (0, 0))) 1).trans rfl
  have cw_2 : (w6.alloc (.cells #[.int .i64 g1, .int .i64 g2, .slice Ag1 g3.length cg1, .slice Ag2 g4.length cg2, .int .i64 g5] 50 (0, 0))).cell? ⟨gw, 2, none⟩ = some (.slice As1 s3.length cs1) := (blk_cell (blk_alloc HXw.out (.cells #[.int .i64 g1, .int .i64 g2, .slice Ag1 g3.length cg1, .slice Ag2 g4.length cg2, .int .i64 g5] 50 (0, 0))) 2).trans rfl
  have cw_3 : (w6.alloc (.cells #[.int .i64 g1, .int .i64 g2, .slice Ag1 g3.length cg1, .slice Ag2 g4.length cg2, .int .i64 g5] 50 (0, 0))).cell? ⟨gw, 3, none⟩ = some (.slice As2 s4.length cs2) := (blk_cell (blk_alloc HXw.out (.cells #[.int .i64 g1, .int .i64 g2, .slice Ag1 g3.length cg1, .slice Ag2 g4.length cg2, .int .i64 g5] 50 (0, 0))) 3).trans rfl
  have cw_4 : (w6.alloc (.cells #[.int .i64 g1, .int .i64 g2, .slice Ag1 g3.length cg1, .slice Ag2 g4.length cg2, .int .i64 g5] 50 (0, 0))).cell? ⟨gw, 4, none⟩ = some (.int .i64 s5) := (blk_cell (blk_alloc HXw.out (.cells #[.int .i64 g1, .int .i64 g2, .slice Ag1 g3.length cg1, .slice Ag2 g4.length cg2, .int .i64 g5] 50 (0, 0))) 4).trans rfl
  go_wp2_with fail
  clear cg_0 cg_1 cg_2 cg_3 cg_4
  clear cw_0 cw_1 cw_2 cw_3 cw_4
  clear hx6
  have hbA : Below w6.heap.size w6 (w6.alloc (.cells #[.int .i64 g1, .int .i64 g2, .slice Ag1 g3.length cg1, .slice Ag2 g4.length cg2, .int .i64 g5] 50 (0, 0))) := below_alloc (Below.refl _ _) _
  have n_ := Aside0.mk (below_step HB2.out hbA)
  clear HB2
  have HB2 := n_
  clear n_
  have n_ := Aside0.mk (Kd.S_below HS1.out hbA)
  clear HS1
  have HS1 := n_
  clear n_
  have n_ := Aside0.mk (Kd.S_below HS2.out hbA)
  clear HS2
  have HS2 := n_
  clear n_
  have n_ := Aside0.mk (blk_below HXw.out hbA)
  clear HXw
  have HXw := n_
  clear n_
  have n_ := Aside0.mk (Kd.R_below HRx0.out hbA)
  clear HRx0
  have HRx0 := n_
  clear n_
  have n_ := Aside0.mk (Nat.le_trans HM.out (Below.size hbA))
  clear HM
  have HM := n_
  clear n_
  have n_ := Aside0.mk (Kd.S_below HG1.out hbA)
  clear HG1
  have HG1 := n_
  clear n_
  have n_ := Aside0.mk (Kd.S_below HG2.out hbA)
  clear HG2
  have HG2 := n_
  clear n_
  have HXg := Aside0.mk (show (w6.alloc (.cells #[.int .i64 g1, .int .i64 g2, .slice Ag1 g3.length cg1, .slice Ag2 g4.length cg2, .int .i64 g5] 50 (0, 0))).heap[w6.heap.size]? = some (.cells #[.int .i64 g1, .int .i64 g2, .slice Ag1 g3.length cg1, .slice Ag2 g4.length cg2, .int .i64 g5] 50 (0, 0)) by rw [World.alloc]; exact Array.getElem?_push_size)
  clear hbA
  generalize w6.alloc (.cells #[.int .i64 g1, .int .i64 g2, .slice Ag1 g3.length cg1, .slice Ag2 g4.length cg2, .int .i64 g5] 50 (0, 0)) = w7 at HB2 HS1 HS2 HXw HRx0 HM HG1 HG2 HXg ⊢
  generalize w6.heap.size = gg at HXg HG1 HG2 ⊢
  refine (laws_eqTxResult.calls k g1 g2 Ag1 cg1 g3 Ag2 cg2 g4 g5 s1 s2 As1 cs1 s3 As2 cs2 s4 s5 true w7 (Kd.S_reads' HG1.out).2.2 (Kd.S_reads' HG1.out).2.1 (Kd.S_reads' HG2.out).2.2 (Kd.S_reads' HG2.out).2.1 (Kd.S_reads' HS1.out).2.2 (Kd.S_reads' HS1.out).2.1 (Kd.S_reads' HS2.out).2.2 (Kd.S_reads' HS2.out).2.1 H5.out).mono ?_
  rintro e w8 ⟨rfl, hb8⟩
  have n_ := Aside0.mk (below_step HB2.out hb8)
  clear HB2
  have HB2 := n_
  clear n_
  have n_ := Aside0.mk (Kd.S_below HS1.out hb8)
  clear HS1
  have HS1 := n_
  clear n_
  have n_ := Aside0.mk (Kd.S_below HS2.out hb8)
  clear HS2
  have HS2 := n_
  clear n_
  have n_ := Aside0.mk (blk_below HXw.out hb8)
  clear HXw
  have HXw := n_
  clear n_
  have n_ := Aside0.mk (Kd.R_below HRx0.out hb8)
  clear HRx0
  have HRx0 := n_
  clear n_
  have n_ := Aside0.mk (Nat.le_trans HM.out (Below.size hb8))
  clear HM
  have HM := n_
  clear n_
  have n_ := Aside0.mk (Kd.S_below HG1.out hb8)
  clear HG1
  have HG1 := n_
  clear n_
  have n_ := Aside0.mk (Kd.S_below HG2.out hb8)
  clear HG2
  have HG2 := n_
  clear n_
  have n_ := Aside0.mk (blk_below HXg.out hb8)
  clear HXg
  have HXg := n_
  clear n_
  clear hb8
  go_wp2_with fail
  refine (laws_toByteS.calls k A0 c0 l0 t3 w8 (Kd.C_below HR.out HB2.out) HC.out H6.out).mono ?_
  rintro e w9 ⟨vy, rfl, hoy, hb9⟩
  have n_ := Aside0.mk (below_step HB2.out hb9)
  clear HB2
  have HB2 := n_
  clear n_
  have n_ := Aside0.mk (Kd.S_below HS1.out hb9)
  clear HS1
  have HS1 := n_
  clear n_
  have n_ := Aside0.mk (Kd.S_below HS2.out hb9)
  clear HS2
  have HS2 := n_
  clear n_
  have n_ := Aside0.mk (blk_below HXw.out hb9)
  clear HXw
  have HXw := n_
  clear n_
  have n_ := Aside0.mk (Kd.R_below HRx0.out hb9)
  clear HRx0
  have HRx0 := n_
  clear n_
  have n_ := Aside0.mk (Nat.le_trans HM.out (Below.size hb9))
  clear HM
  have HM := n_
  clear n_
  have n_ := Aside0.mk (Kd.S_below HG1.out hb9)
  clear HG1
  have HG1 := n_
  clear n_
  have n_ := Aside0.mk (Kd.S_below HG2.out hb9)
  clear HG2
  have HG2 := n_
  clear n_
  have n_ := Aside0.mk (blk_below HXg.out hb9)
  clear HXg
  have HXg := n_
  clear n_
  obtain ⟨Ay, cy, rfl, hcy, hCy⟩ := Kd.R_reads hoy
  clear hb9 hoy
  go_wp2_with fail
  refine (laws_eqByteS.calls k Ax cx t2 Ay cy t3 true w9 (Kd.R_reads' HRx0.out).2.2 (Kd.R_reads' HRx0.out).2.1 hCy hcy H7.out).mono ?_
  rintro e w10 ⟨rfl, hd10⟩
  have hb10 := hd10.below
  have n_ := Aside0.mk (below_step HB2.out hb10)
  clear HB2
  have HB2 := n_
  clear n_
  have n_ := Aside0.mk (Kd.S_below HS1.out hb10)
  clear HS1
  have HS1 := n_
  clear n_
  have n_ := Aside0.mk (Kd.S_below HS2.out hb10)
  clear HS2
  have HS2 := n_
  clear n_
  have n_ := Aside0.mk (blk_below HXw.out hb10)
  clear HXw
  have HXw := n_
  clear n_
  have n_ := Aside0.mk (Kd.R_below HRx0.out hb10)
  clear HRx0
  have HRx0 := n_
  clear n_
  have n_ := Aside0.mk (Nat.le_trans HM.out (Below.size hb10))
  clear HM
  have HM := n_
  clear n_
  have n_ := Aside0.mk (Kd.S_below HG1.out hb10)
  clear HG1
  have HG1 := n_
  clear n_
  have n_ := Aside0.mk (Kd.S_below HG2.out hb10)
  clear HG2
  have HG2 := n_
  clear n_
  have n_ := Aside0.mk (blk_below HXg.out hb10)
  clear HXg
  have HXg := n_
  clear n_
  clear hb10 hd10 hCy hcy
  go_wp2_with fail
  refine (laws_markByteS.calls k (fun k_ => some k_ = (Value.slice Ax t2.length cx).ownBlock) (.slice Ax t2.length cx) t2 1 mk1 mk2 w w10 HB2.out HRx0.out H8.out).mono ?_
  rintro e w11 ⟨rfl, _, hb11, hk11⟩
  have n_ := Aside0.mk hb11
  clear HB2
  have HB2 := n_
  clear n_
  have n_ := Aside0.mk (Kd.S_mono (Kd.S_step (Kd.S_apart' HS1.out (Kd.R_typed HRx0.out) (by decide)) (fun k hp hlt => hk11.2 k hlt (fun h_ => hp.2 h_))) (fun _ h => h.1))
  clear HS1
  have HS1 := n_
  clear n_
  have n_ := Aside0.mk (Kd.S_mono (Kd.S_step (Kd.S_apart' HS2.out (Kd.R_typed HRx0.out) (by decide)) (fun k hp hlt => hk11.2 k hlt (fun h_ => hp.2 h_))) (fun _ h => h.1))
  clear HS2
  have HS2 := n_
  clear n_
  have n_ := Aside0.mk (Kd.S_mono (Kd.S_step (Kd.S_apart' HG1.out (Kd.R_typed HRx0.out) (by decide)) (fun k hp hlt => hk11.2 k hlt (fun h_ => hp.2 h_))) (fun _ h => h.1))
  clear HG1
  have HG1 := n_
  clear n_
  have n_ := Aside0.mk (Kd.S_mono (Kd.S_step (Kd.S_apart' HG2.out (Kd.R_typed HRx0.out) (by decide)) (fun k hp hlt => hk11.2 k hlt (fun h_ => hp.2 h_))) (fun _ h => h.1))
  clear HG2
  have HG2 := n_
  clear n_
  have n_ := Aside0.mk (blk_kept HXw.out hk11 (Kd.R_ne HRx0.out HXw.out (by decide)))
  clear HXw
  have HXw := n_
  clear n_
  have n_ := Aside0.mk (blk_kept HXg.out hk11 (Kd.R_ne HRx0.out HXg.out (by decide)))
  clear HXg
  have HXg := n_
  clear n_
  have n_ := Aside0.mk (Nat.le_trans HM.out hk11.1)
  clear HM
  have HM := n_
  clear n_
  clear HRx0 hb11 hk11 HXB HLx
  have cw_0 : w11.cell? ⟨gw, 0, none⟩ = some (.int .i64 s1) := (blk_cell HXw.out 0).trans rfl
  have cw_1 : w11.cell? ⟨gw, 1, none⟩ = some (.int .i64 s2) := (blk_cell HXw.out 1).trans rfl
  have cw_2 : w11.cell? ⟨gw, 2, none⟩ = some (.slice As1 s3.length cs1) := (blk_cell HXw.out 2).trans rfl
  have cw_3 : w11.cell? ⟨gw, 3, none⟩ = some (.slice As2 s4.length cs2) := (blk_cell HXw.out 3).trans rfl
  have cw_4 : w11.cell? ⟨gw, 4, none⟩ = some (.int .i64 s5) := (blk_cell HXw.out 4).trans rfl
  have cg_0 : w11.cell? ⟨gg, 0, none⟩ = some (.int .i64 g1) := (blk_cell HXg.out 0).trans rfl
  have cg_1 : w11.cell? ⟨gg, 1, none⟩ = some (.int .i64 g2) := (blk_cell HXg.out 1).trans rfl
  have cg_2 : w11.cell? ⟨gg, 2, none⟩ = some (.slice Ag1 g3.length cg1) := (blk_cell HXg.out 2).trans rfl
  have cg_3 : w11.cell? ⟨gg, 3, none⟩ = some (.slice Ag2 g4.length cg2) := (blk_cell HXg.out 3).trans rfl
  have cg_4 : w11.cell? ⟨gg, 4, none⟩ = some (.int .i64 g5) := (blk_cell HXg.out 4).trans rfl
  go_wp2_with fail
  refine (laws_eqTxResult.calls k g1 g2 Ag1 cg1 g3 Ag2 cg2 g4 g5 s1 s2 As1 cs1 s3 As2 cs2 s4 s5 true w11 (Kd.S_reads' HG1.out).2.2 (Kd.S_reads' HG1.out).2.1 (Kd.S_reads' HG2.out).2.2 (Kd.S_reads' HG2.out).2.1 (Kd.S_reads' HS1.out).2.2 (Kd.S_reads' HS1.out).2.1 (Kd.S_reads' HS2.out).2.2 (Kd.S_reads' HS2.out).2.1 H9.out).mono ?_
  rintro e w12 ⟨rfl, hb12⟩
  clear cw_0 cw_1 cw_2 cw_3 cw_4
  clear cg_0 cg_1 cg_2 cg_3 cg_4
  have n_ := Aside0.mk (below_step HB2.out hb12)
  clear HB2
  have HB2 := n_
  clear n_
  have n_ := Aside0.mk (Kd.S_below HS1.out hb12)
  clear HS1
  have HS1 := n_
  clear n_
  have n_ := Aside0.mk (Kd.S_below HS2.out hb12)
  clear HS2
  have HS2 := n_
  clear n_
  have n_ := Aside0.mk (blk_below HXw.out hb12)
  clear HXw
  have HXw := n_
  clear n_
  have n_ := Aside0.mk (Nat.le_trans HM.out (Below.size hb12))
  clear HM
  have HM := n_
  clear n_
  have n_ := Aside0.mk (Kd.S_below HG1.out hb12)
  clear HG1
  have HG1 := n_
  clear n_
  have n_ := Aside0.mk (Kd.S_below HG2.out hb12)
  clear HG2
  have HG2 := n_
  clear n_
  have n_ := Aside0.mk (blk_below HXg.out hb12)
  clear HXg
  have HXg := n_
  clear n_
  clear hb12
  have cg_0 : w12.cell? ⟨gg, 0, none⟩ = some (.int .i64 g1) := (blk_cell HXg.out 0).trans rfl
  have cg_1 : w12.cell? ⟨gg, 1, none⟩ = some (.int .i64 g2) := (blk_cell HXg.out 1).trans rfl
  have cg_2 : w12.cell? ⟨gg, 2, none⟩ = some (.slice Ag1 g3.length cg1) := (blk_cell HXg.out 2).trans rfl
  have cg_3 : w12.cell? ⟨gg, 3, none⟩ = some (.slice Ag2 g4.length cg2) := (blk_cell HXg.out 3).trans rfl
  have cg_4 : w12.cell? ⟨gg, 4, none⟩ = some (.int .i64 g5) := (blk_cell HXg.out 4).trans rfl
  go_wp2_with fail
  clear cg_0 cg_1 cg_2 cg_3 cg_4
  refine (laws_markTxResult.calls k (fun k => M ≤ k ∧ k < N_ ∧ k < gg) (fun k => M ≤ k ∧ N_ ≤ k ∧ k < gg) g1 g2 (.slice Ag1 g3.length cg1) g3 (.slice Ag2 g4.length cg2) g4 g5 1 m1 m2 m3 w w12 HB2.out (fun _ h1 h2 => absurd h1.2.1 (Nat.not_lt.2 h2.2.1)) HG1.out HG2.out H10.out).mono ?_
  rintro e w13 ⟨rfl, hs1, hs2, hb13, hk13⟩
  have hP : ∀ k, ((M ≤ k ∧ k < N_ ∧ k < gg) ∨ (M ≤ k ∧ N_ ≤ k ∧ k < gg)) → M ≤ k ∧ k < gg := fun k h => h.elim (fun h => ⟨h.1, h.2.2⟩) (fun h => ⟨h.1, h.2.2⟩)
  have n_ := Aside0.mk hb13
  clear HB2
  have HB2 := n_
  clear n_
  have n_ := Aside0.mk (Kd.S_step HS1.out (fun k hp hlt => hk13.2 k hlt (fun h_ => absurd hp (Nat.not_lt.2 (hP k h_).1))))
  clear HS1
  have HS1 := n_
  clear n_
  have n_ := Aside0.mk (Kd.S_step HS2.out (fun k hp hlt => hk13.2 k hlt (fun h_ => absurd hp (Nat.not_lt.2 (hP k h_).1))))
  clear HS2
  have HS2 := n_
  clear n_
  have n_ := Aside0.mk (blk_kept HXw.out hk13 (fun h_ => absurd HLT.out (Nat.not_lt.2 (hP gw h_).1)))
  clear HXw
  have HXw := n_
  clear n_
  have n_ := Aside0.mk (blk_kept HXg.out hk13 (fun h_ => absurd (hP gg h_).2 (Nat.lt_irrefl _)))
  clear HXg
  have HXg := n_
  clear n_
  have n_ := Aside0.mk (Nat.le_trans HM.out hk13.1)
  clear HM
  have HM := n_
  clear n_
  clear HG1 HG2
  have HG1 := Aside0.mk hs1
  have HG2 := Aside0.mk hs2
  have HE1 := Aside0.mk (Kd.S_reads' hs1).1
  have HE2 := Aside0.mk (Kd.S_reads' hs2).1
  clear hs1 hs2 hb13 hk13 hP
  have cg_0 : w13.cell? ⟨gg, 0, none⟩ = some (.int .i64 g1) := (blk_cell HXg.out 0).trans rfl
  have cg_1 : w13.cell? ⟨gg, 1, none⟩ = some (.int .i64 g2) := (blk_cell HXg.out 1).trans rfl
  have cg_2 : w13.cell? ⟨gg, 2, none⟩ = some (.slice Ag1 g3.length cg1) := (blk_cell HXg.out 2).trans rfl
  have cg_3 : w13.cell? ⟨gg, 3, none⟩ = some (.slice Ag2 g4.length cg2) := (blk_cell HXg.out 3).trans rfl
  have cg_4 : w13.cell? ⟨gg, 4, none⟩ = some (.int .i64 g5) := (blk_cell HXg.out 4).trans rfl
  go_wp2_with fail
  clear cg_0 cg_1 cg_2 cg_3 cg_4
  have hcall := laws_heldTxResult.calls k g1 g2 Ag1 cg1 m2 Ag2 cg2 m3 g5 1 q w13 (HE1.out ▸ (Kd.S_reads' HG1.out).2.2) (HE1.out ▸ (Kd.S_reads' HG1.out).2.1) (HE2.out ▸ (Kd.S_reads' HG2.out).2.2) (HE2.out ▸ (Kd.S_reads' HG2.out).2.1) H11.out
  rw [← HE1.out, ← HE2.out] at hcall
  refine hcall.mono ?_
  rintro e w14 ⟨rfl, hb14⟩
  clear hcall
  have n_ := Aside0.mk (below_step HB2.out hb14)
  clear HB2
  have HB2 := n_
  clear n_
  have n_ := Aside0.mk (Kd.S_below HS1.out hb14)
  clear HS1
  have HS1 := n_
  clear n_
  have n_ := Aside0.mk (Kd.S_below HS2.out hb14)
  clear HS2
  have HS2 := n_
  clear n_
  have n_ := Aside0.mk (blk_below HXw.out hb14)
  clear HXw
  have HXw := n_
  clear n_
  have n_ := Aside0.mk (Nat.le_trans HM.out (Below.size hb14))
  clear HM
  have HM := n_
  clear n_
  have n_ := Aside0.mk (Kd.S_below HG1.out hb14)
  clear HG1
  have HG1 := n_
  clear n_
  have n_ := Aside0.mk (Kd.S_below HG2.out hb14)
  clear HG2
  have HG2 := n_
  clear n_
  have n_ := Aside0.mk (blk_below HXg.out hb14)
  clear HXg
  have HXg := n_
  clear n_
  clear hb14
  go_wp2_with fail
  refine (laws_toByteS.calls k A0 c0 l0 t4 w14 (Kd.C_below HR.out HB2.out) HC.out H12.out).mono ?_
  rintro e w15 ⟨vz, rfl, hoz, hb15⟩
  have n_ := Aside0.mk (below_step HB2.out hb15)
  clear HB2
  have HB2 := n_
  clear n_
  have n_ := Aside0.mk (Kd.S_below HS1.out hb15)
  clear HS1
  have HS1 := n_
  clear n_
  have n_ := Aside0.mk (Kd.S_below HS2.out hb15)
  clear HS2
  have HS2 := n_
  clear n_
  have n_ := Aside0.mk (blk_below HXw.out hb15)
  clear HXw
  have HXw := n_
  clear n_
  have n_ := Aside0.mk (Nat.le_trans HM.out (Below.size hb15))
  clear HM
  have HM := n_
  clear n_
  have n_ := Aside0.mk (Kd.S_below HG1.out hb15)
  clear HG1
  have HG1 := n_
  clear n_
  have n_ := Aside0.mk (Kd.S_below HG2.out hb15)
  clear HG2
  have HG2 := n_
  clear n_
  have n_ := Aside0.mk (blk_below HXg.out hb15)
  clear HXg
  have HXg := n_
  clear n_
  obtain ⟨Az, cz, rfl, hcz, hCz⟩ := Kd.R_reads hoz
  clear hb15 hoz
  go_wp2_with fail
  refine (impl_ReadTx.calls k Az cz t4 h1 h2 h3 h4 h5 w15 hCz hcz H13.out).mono ?_
  rintro e w16 ⟨v7, v8, Nh_, rfl, ho7, ho8, hb16⟩
  have n_ := Aside0.mk (below_step HB2.out hb16)
  clear HB2
  have HB2 := n_
  clear n_
  have n_ := Aside0.mk (Kd.S_below HS1.out hb16)
  clear HS1
  have HS1 := n_
  clear n_
  have n_ := Aside0.mk (Kd.S_below HS2.out hb16)
  clear HS2
  have HS2 := n_
  clear n_
  have n_ := Aside0.mk (blk_below HXw.out hb16)
  clear HXw
  have HXw := n_
  clear n_
  have n_ := Aside0.mk (Nat.le_trans HM.out (Below.size hb16))
  clear HM
  have HM := n_
  clear n_
  have n_ := Aside0.mk (Kd.S_below HG1.out hb16)
  clear HG1
  have HG1 := n_
  clear n_
  have n_ := Aside0.mk (Kd.S_below HG2.out hb16)
  clear HG2
  have HG2 := n_
  clear n_
  have n_ := Aside0.mk (blk_below HXg.out hb16)
  clear HXg
  have HXg := n_
  clear n_
  clear hb16 hCz hcz
  obtain ⟨Ah1, ch1, rfl, _, _⟩ := Kd.S_reads ho7
  obtain ⟨Ah2, ch2, rfl, _, _⟩ := Kd.S_reads ho8
  have HH1 := Aside0.mk ho7
  have HH2 := Aside0.mk ho8
  clear ho7 ho8
  have hx16 : (w16.alloc (.cells #[.int .i64 h1, .int .i64 h2, .slice Ah1 h3.length ch1, .slice Ah2 h4.length ch2, .int .i64 h5] 50 (0, 0))).heap[w16.heap.size]? = some (.cells #[.int .i64 h1, .int .i64 h2, .slice Ah1 h3.length ch1, .slice Ah2 h4.length ch2, .int .i64 h5] 50 (0, 0)) := by rw [World.alloc]; exact Array.getElem?_push_size
  have ch_0 : (w16.alloc (.cells #[.int .i64 h1, .int .i64 h2, .slice Ah1 h3.length ch1, .slice Ah2 h4.length ch2, .int .i64 h5] 50 (0, 0))).cell? ⟨w16.heap.size, 0, none⟩ = some (.int .i64 h1) := (blk_cell hx16 0).trans rfl
  have ch_1 : (w16.alloc (.cells #[.int .i64 h1, .int .i64 h2, .slice Ah1 h3.length ch1, .slice Ah2 h4.length ch2, .int .i64 h5] 50 (0, 0))).cell? ⟨w16.heap.size, 1, none⟩ = some (.int .i64 h2) := (blk_cell hx16 1).trans rfl
  have ch_2 : (w16.alloc (.cells #[.int .i64 h1, .int .i64 h2, .slice Ah1 h3.length ch1, .slice Ah2 h4.length ch2, .int .i64 h5] 50 (0, 0))).cell? ⟨w16.heap.size, 2, none⟩ = some (.slice Ah1 h3.length ch1) := (blk_cell hx16 2).trans rfl
  have ch_3 : (w16.alloc (.cells #[.int .i64 h1, .int .i64 h2, .slice Ah1 h3.length ch1, .slice Ah2 h4.length ch2, .int .i64 h5] 50 (0, 0))).cell? ⟨w16.heap.size, 3, none⟩ = some (.slice Ah2 h4.length ch2) := (blk_cell hx16 3).trans rfl
  have ch_4 : (w16.alloc (.cells #[.int .i64 h1, .int .i64 h2, .slice Ah1 h3.length ch1, .slice Ah2 h4.length ch2, .int .i64 h5] 50 (0, 0))).cell? ⟨w16.heap.size, 4, none⟩ = some (.int .i64 h5) := (blk_cell hx16 4).trans rfl
  have cw_0 : (w16.alloc (.cells #[.int .i64 h1, .int .i64 h2, .slice Ah1 h3.length ch1, .slice Ah2 h4.length ch2, .int .i64 h5] 50 (0, 0))).cell? ⟨gw, 0, none⟩ = some (.int .i64 s1) := (blk_cell (blk_alloc HXw.out (.cells #[.int .i64 h1, .int .i64 h2, .slice Ah1 h3.length ch1, .slice Ah2 h4.length ch2, .int .i64 h5] 50 (0, 0))) 0).trans rfl
  have cw_1 : (w16.alloc (.cells #[.int .i64 h1, .int .i64 h2, .slice Ah1 h3.length ch1, .slice Ah2 h4.length ch2, .int .i64 h5] 50 (0, 0))).cell? ⟨gw, 1, none⟩ = some (.int .i64 s2) := (blk_cell (blk_alloc HXw.out (.cells #[.int .i64 h1, .int .i64 h2, .slice Ah1 h3.length ch1, .slice Ah2 h4.length ch2, .int .i64 h5] 50 (0, 0))) 1).trans rfl
  have cw_2 : (w16.alloc (.cells #[.int .i64 h1, .int .i64 h2, .slice Ah1 h3.length ch1, .slice Ah2 h4.length ch2, .int .i64 h5] 50 (0, 0))).cell? ⟨gw, 2, none⟩ = some (.slice As1 s3.length cs1) := (blk_cell (blk_alloc HXw.out (.cells #[.int .i64 h1, .int .i64 h2, .slice Ah1 h3.length ch1, .slice Ah2 h4.length ch2, .int .i64 h5] 50 (0, 0))) 2).trans rfl
  have cw_3 : (w16.alloc (.cells #[.int .i64 h1, .int .i64 h2, .slice Ah1 h3.length ch1, .slice Ah2 h4.length ch2, .int .i64 h5] 50 (0, 0))).cell? ⟨gw, 3, none⟩ = some (.slice As2 s4.length cs2) := (blk_cell (blk_alloc HXw.out (.cells #[.int .i64 h1, .int .i64 h2, .slice Ah1 h3.length ch1, .slice Ah2 h4.length ch2, .int .i64 h5] 50 (0, 0))) 3).trans rfl
  have cw_4 : (w16.alloc (.cells #[.int .i64 h1, .int .i64 h2, .slice Ah1 h3.length ch1, .slice Ah2 h4.length ch2, .int .i64 h5] 50 (0, 0))).cell? ⟨gw, 4, none⟩ = some (.int .i64 s5) := (blk_cell (blk_alloc HXw.out (.cells #[.int .i64 h1, .int .i64 h2, .slice Ah1 h3.length ch1, .slice Ah2 h4.length ch2, .int .i64 h5] 50 (0, 0))) 4).trans rfl
  go_wp2_with fail
  clear ch_0 ch_1 ch_2 ch_3 ch_4
  clear cw_0 cw_1 cw_2 cw_3 cw_4
  clear hx16
  have hbA : Below w16.heap.size w16 (w16.alloc (.cells #[.int .i64 h1, .int .i64 h2, .slice Ah1 h3.length ch1, .slice Ah2 h4.length ch2, .int .i64 h5] 50 (0, 0))) := below_alloc (Below.refl _ _) _
  have n_ := Aside0.mk (below_step HB2.out hbA)
  clear HB2
  have HB2 := n_
  clear n_
  have n_ := Aside0.mk (Kd.S_below HS1.out hbA)
  clear HS1
  have HS1 := n_
  clear n_
  have n_ := Aside0.mk (Kd.S_below HS2.out hbA)
  clear HS2
  have HS2 := n_
  clear n_
  have n_ := Aside0.mk (blk_below HXw.out hbA)
  clear HXw
  have HXw := n_
  clear n_
  have n_ := Aside0.mk (Nat.le_trans HM.out (Below.size hbA))
  clear HM
  have HM := n_
  clear n_
  have n_ := Aside0.mk (Kd.S_below HG1.out hbA)
  clear HG1
  have HG1 := n_
  clear n_
  have n_ := Aside0.mk (Kd.S_below HG2.out hbA)
  clear HG2
  have HG2 := n_
  clear n_
  have n_ := Aside0.mk (blk_below HXg.out hbA)
  clear HXg
  have HXg := n_
  clear n_
  have n_ := Aside0.mk (Kd.S_below HH1.out hbA)
  clear HH1
  have HH1 := n_
  clear n_
  have n_ := Aside0.mk (Kd.S_below HH2.out hbA)
  clear HH2
  have HH2 := n_
  clear n_
  have HXh := Aside0.mk (show (w16.alloc (.cells #[.int .i64 h1, .int .i64 h2, .slice Ah1 h3.length ch1, .slice Ah2 h4.length ch2, .int .i64 h5] 50 (0, 0))).heap[w16.heap.size]? = some (.cells #[.int .i64 h1, .int .i64 h2, .slice Ah1 h3.length ch1, .slice Ah2 h4.length ch2, .int .i64 h5] 50 (0, 0)) by rw [World.alloc]; exact Array.getElem?_push_size)
  clear hbA
  generalize w16.alloc (.cells #[.int .i64 h1, .int .i64 h2, .slice Ah1 h3.length ch1, .slice Ah2 h4.length ch2, .int .i64 h5] 50 (0, 0)) = w17 at HB2 HS1 HS2 HXw HM HG1 HG2 HXg HH1 HH2 HXh ⊢
  generalize w16.heap.size = gh at HXh ⊢
  refine (laws_eqTxResult.calls k h1 h2 Ah1 ch1 h3 Ah2 ch2 h4 h5 s1 s2 As1 cs1 s3 As2 cs2 s4 s5 true w17 (Kd.S_reads' HH1.out).2.2 (Kd.S_reads' HH1.out).2.1 (Kd.S_reads' HH2.out).2.2 (Kd.S_reads' HH2.out).2.1 (Kd.S_reads' HS1.out).2.2 (Kd.S_reads' HS1.out).2.1 (Kd.S_reads' HS2.out).2.2 (Kd.S_reads' HS2.out).2.1 H14.out).mono ?_
  rintro e w18 ⟨rfl, hb18⟩
  have n_ := Aside0.mk (below_step HB2.out hb18)
  clear HB2
  have HB2 := n_
  clear n_
  have n_ := Aside0.mk (Kd.S_below HS1.out hb18)
  clear HS1
  have HS1 := n_
  clear n_
  have n_ := Aside0.mk (Kd.S_below HS2.out hb18)
  clear HS2
  have HS2 := n_
  clear n_
  have n_ := Aside0.mk (blk_below HXw.out hb18)
  clear HXw
  have HXw := n_
  clear n_
  have n_ := Aside0.mk (Nat.le_trans HM.out (Below.size hb18))
  clear HM
  have HM := n_
  clear n_
  have n_ := Aside0.mk (Kd.S_below HG1.out hb18)
  clear HG1
  have HG1 := n_
  clear n_
  have n_ := Aside0.mk (Kd.S_below HG2.out hb18)
  clear HG2
  have HG2 := n_
  clear n_
  have n_ := Aside0.mk (blk_below HXg.out hb18)
  clear HXg
  have HXg := n_
  clear n_
  have n_ := Aside0.mk (Kd.S_below HH1.out hb18)
  clear HH1
  have HH1 := n_
  clear n_
  have n_ := Aside0.mk (Kd.S_below HH2.out hb18)
  clear HH2
  have HH2 := n_
  clear n_
  have n_ := Aside0.mk (blk_below HXh.out hb18)
  clear HXh
  have HXh := n_
  clear n_
  clear hb18
  have cg_0 : w18.cell? ⟨gg, 0, none⟩ = some (.int .i64 g1) := (blk_cell HXg.out 0).trans rfl
  have cg_1 : w18.cell? ⟨gg, 1, none⟩ = some (.int .i64 g2) := (blk_cell HXg.out 1).trans rfl
  have cg_2 : w18.cell? ⟨gg, 2, none⟩ = some (.slice Ag1 g3.length cg1) := (blk_cell HXg.out 2).trans rfl
  have cg_3 : w18.cell? ⟨gg, 3, none⟩ = some (.slice Ag2 g4.length cg2) := (blk_cell HXg.out 3).trans rfl
  have cg_4 : w18.cell? ⟨gg, 4, none⟩ = some (.int .i64 g5) := (blk_cell HXg.out 4).trans rfl
  go_wp2_with fail
  clear cg_0 cg_1 cg_2 cg_3 cg_4
  have hcall := laws_heldTxResult.calls k g1 g2 Ag1 cg1 m2 Ag2 cg2 m3 g5 1 q2 w18 (HE1.out ▸ (Kd.S_reads' HG1.out).2.2) (HE1.out ▸ (Kd.S_reads' HG1.out).2.1) (HE2.out ▸ (Kd.S_reads' HG2.out).2.2) (HE2.out ▸ (Kd.S_reads' HG2.out).2.1) H15.out
  rw [← HE1.out, ← HE2.out] at hcall
  refine hcall.mono ?_
  rintro e w19 ⟨rfl, hb19⟩
  clear hcall
  have n_ := Aside0.mk (below_step HB2.out hb19)
  clear HB2
  have HB2 := n_
  clear n_
  have n_ := Aside0.mk (Kd.S_below HS1.out hb19)
  clear HS1
  have HS1 := n_
  clear n_
  have n_ := Aside0.mk (Kd.S_below HS2.out hb19)
  clear HS2
  have HS2 := n_
  clear n_
  have n_ := Aside0.mk (blk_below HXw.out hb19)
  clear HXw
  have HXw := n_
  clear n_
  have n_ := Aside0.mk (Nat.le_trans HM.out (Below.size hb19))
  clear HM
  have HM := n_
  clear n_
  have n_ := Aside0.mk (Kd.S_below HG1.out hb19)
  clear HG1
  have HG1 := n_
  clear n_
  have n_ := Aside0.mk (Kd.S_below HG2.out hb19)
  clear HG2
  have HG2 := n_
  clear n_
  have n_ := Aside0.mk (blk_below HXg.out hb19)
  clear HXg
  have HXg := n_
  clear n_
  have n_ := Aside0.mk (Kd.S_below HH1.out hb19)
  clear HH1
  have HH1 := n_
  clear n_
  have n_ := Aside0.mk (Kd.S_below HH2.out hb19)
  clear HH2
  have HH2 := n_
  clear n_
  have n_ := Aside0.mk (blk_below HXh.out hb19)
  clear HXh
  have HXh := n_
  clear n_
  clear hb19
  go_wp2
  go_ret
  exact ⟨rfl, HB2.out⟩
def laws_FnExactReadTx.Pure : Prop := ∀ (l0 : List Int), l0.length ≤ maxLen → l0.length * 1 ≤ 140737488351232 → (∀ x ∈ l0, (Lit.int .u8 x).wf = true) → ∃ k, laws_FnExactReadTx.f k l0 = some true
theorem laws_FnExactReadTx.walk (P : laws_FnExactReadTx.Pure) (a0 : Option Addr) (len0 cap0 : Nat) (z0 : List Int) (w : World) (w0 : (a0 = none ∧ len0 = 0 ∧ cap0 = 0 ∧ z0 = []) ∨ ∃ x, a0 = some x ∧ len0 ≤ cap0 ∧ cap0 ≤ maxLen ∧ z0.length = cap0 ∧ (∀ i, i < z0.length → w.cell? (x.add i) = some (.int .u8 (z0.getD i 0))) ∧ ∀ n ∈ z0, (Lit.int .u8 n).wf = true) (y0 : len0 * 1 ≤ 140737488351232) :
    Calls Try.prog 5 #[.slice a0 len0 cap0] w fun e w' => e = .returned (.bool true) ∧ Below w.heap.size w w' := by
  obtain ⟨l0, rfl, hr0, hm0, hw0, hc0⟩ := ReadsInt.ofRowC w0
  obtain ⟨k, h⟩ := P l0 hm0 y0 hw0
  refine (laws_FnExactReadTx.calls k _ _ l0 true w (Kd.C_of_reads (d := (0 : Int)) (h1 := fun _ => rfl) hr0) hc0 h).mono ?_
  rintro e w' ⟨rfl, hd⟩
  exact ⟨rfl, hd⟩

end Go.Proofs.Ythjlbpgiaehjnaa.QFnExactReadTx
