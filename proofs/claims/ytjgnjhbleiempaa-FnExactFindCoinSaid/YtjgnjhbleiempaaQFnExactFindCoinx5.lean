-- written by this session's program (wip/tools/myprint.py)
import Derived.Test.YtjgnjhbleiempaaQFnExactFindCoinx0
import Derived.Test.YtjgnjhbleiempaaQFnExactFindCoinx3
import Derived.Test.YtjgnjhbleiempaaQFnExactFindCoinx4
namespace Go.Proofs.Ytjgnjhbleiempaa.QFnExactFindCoin
open Go.RowKit Go.Proofs.YtjgnjhbleiempaaW.PrintWords Go.Proofs.YtjgnjhbleiempaaW.PrintLast Go.Proofs.YtjgnjhbleiempaaW.PrintMore
attribute [local go_sem] max2_int min2_int max_two min_two max_three min_three max_four min_four   -- for this text's walks alone
set_option linter.unusedVariables false
set_option linter.unusedSimpArgs false

/-! ### impl_CoinsFault: function 41 -/
mutual
def impl_CoinsFault.l0 : Nat → List (S74) → List (S74) → Int → Int → Option (Int)
  | 0, _, _, _, _ => none
  | k + 1, x0, x9, x10, x11 => if x11 < x10 then (if 0 ≤ x11 then (if x11 < (x9.length : Int) then ((impl_isSum.f ((rd_T74 x9 x11).f0)).bind fun t208 => (if t208 = true then ((impl_in.f ((rd_T74 x9 x11).f1) 0 3).bind fun t209 => (if t209 = true then ((impl_isAmount.f ((rd_T74 x9 x11).f2)).bind fun t210 => (if t210 = true then ((impl_isHeight.f ((rd_T74 x9 x11).f4)).bind fun t211 => (impl_CoinsFault.j1 k x0 x11 x9 x10 x11 (!t211) ((rd_T74 x9 x11).f0) ((rd_T74 x9 x11).f1) ((rd_T74 x9 x11).f2) ((rd_T74 x9 x11).f3) ((rd_T74 x9 x11).f4) ((rd_T74 x9 x11).f5))) else (impl_CoinsFault.j1 k x0 x11 x9 x10 x11 true ((rd_T74 x9 x11).f0) ((rd_T74 x9 x11).f1) ((rd_T74 x9 x11).f2) ((rd_T74 x9 x11).f3) ((rd_T74 x9 x11).f4) ((rd_T74 x9 x11).f5)))) else (impl_CoinsFault.j1 k x0 x11 x9 x10 x11 true ((rd_T74 x9 x11).f0) ((rd_T74 x9 x11).f1) ((rd_T74 x9 x11).f2) ((rd_T74 x9 x11).f3) ((rd_T74 x9 x11).f4) ((rd_T74 x9 x11).f5)))) else (impl_CoinsFault.j1 k x0 x11 x9 x10 x11 true ((rd_T74 x9 x11).f0) ((rd_T74 x9 x11).f1) ((rd_T74 x9 x11).f2) ((rd_T74 x9 x11).f3) ((rd_T74 x9 x11).f4) ((rd_T74 x9 x11).f5)))) else (none)) else (none)) else ((impl_worth.f k x0).bind fun t215 => ((impl_isAmount.f t215).bind fun t216 => (if t216 = true then (some 0) else (some 7))))
def impl_CoinsFault.j1 : Nat → List (S74) → Int → List (S74) → Int → Int → Bool → Int → Int → Int → List Int → Int → Bool → Option (Int)
  | 0, _, _, _, _, _, _, _, _, _, _, _, _ => none
  | k + 1, x0, x3, x9, x10, x11, x37, x208000, x208001, x208002, x208003, x208004, x208005 => if x37 = true then (some 3) else ((impl_ProgramFault.f k x208003).bind fun t212 => (if t212 = 0 then (if x3 > 0 then (if 0 ≤ (wrap64 (x3 - 1)) then (if (wrap64 (x3 - 1)) < (x0.length : Int) then ((impl_coinOrder.f k ((rd_T74 x0 (wrap64 (x3 - 1))).f0) ((rd_T74 x0 (wrap64 (x3 - 1))).f1) ((rd_T74 x0 (wrap64 (x3 - 1))).f2) ((rd_T74 x0 (wrap64 (x3 - 1))).f3) ((rd_T74 x0 (wrap64 (x3 - 1))).f4) ((rd_T74 x0 (wrap64 (x3 - 1))).f5) x208000 x208001 x208002 x208003 x208004 x208005).bind fun t214 => (if t214 ≥ 0 then (some 1) else (impl_CoinsFault.l0 k x0 x9 x10 (wrap64 (x11 + 1))))) else (none)) else (none)) else (impl_CoinsFault.l0 k x0 x9 x10 (wrap64 (x11 + 1)))) else (some t212)))
end
def impl_CoinsFault.f (k : Nat) (l0 : List (S74)) : Option (Int) := if (l0.length : Int) > 40 then (some 2) else (impl_CoinsFault.l0 k l0 l0 (l0.length : Int) 0)
theorem impl_CoinsFault.mono_l : ∀ k, (∀ y0 y1 y2 y3, LeO (impl_CoinsFault.l0 k y0 y1 y2 y3) (impl_CoinsFault.l0 (k + 1) y0 y1 y2 y3)) ∧ (∀ y0 y1 y2 y3 y4 y5 y6 y7 y8 y9 y10 y11, LeO (impl_CoinsFault.j1 k y0 y1 y2 y3 y4 y5 y6 y7 y8 y9 y10 y11) (impl_CoinsFault.j1 (k + 1) y0 y1 y2 y3 y4 y5 y6 y7 y8 y9 y10 y11))
  | 0 => ⟨fun _ _ _ _ r h => by simp [impl_CoinsFault.l0] at h, fun _ _ _ _ _ _ _ _ _ _ _ _ r h => by simp [impl_CoinsFault.j1] at h⟩
  | k + 1 => by
    obtain ⟨ih0, ih1⟩ := impl_CoinsFault.mono_l k
    refine ⟨?_, ?_⟩
    · intro y0 y1 y2 y3
      unfold impl_CoinsFault.l0
      repeat' first
      | (with_reducible exact ih0 _ _ _ _)
      | (with_reducible exact ih1 _ _ _ _ _ _ _ _ _ _ _ _)
      | (with_reducible exact impl_ProgramFault.mono _ _)
      | (with_reducible exact impl_coinOrder.mono _ _ _ _ _ _ _ _ _ _ _ _ _)
      | (with_reducible exact impl_worth.mono _ _)
      | (with_reducible exact LeO.refl _)
      | (with_reducible exact LeO.none _)
      | (with_reducible refine LeO.ite ?_ ?_)
      | (with_reducible refine LeO.bind ?_ (fun _ => ?_))
      | exact ih0 _ _ _ _
      | exact ih1 _ _ _ _ _ _ _ _ _ _ _ _
      | exact impl_ProgramFault.mono _ _
      | exact impl_coinOrder.mono _ _ _ _ _ _ _ _ _ _ _ _ _
      | exact impl_worth.mono _ _
      | exact LeO.none _
      | refine LeO.ite ?_ ?_
      | refine LeO.bind ?_ (fun _ => ?_)
    · intro y0 y1 y2 y3 y4 y5 y6 y7 y8 y9 y10 y11
      unfold impl_CoinsFault.j1
      repeat' first
      | (with_reducible exact ih0 _ _ _ _)
      | (with_reducible exact ih1 _ _ _ _ _ _ _ _ _ _ _ _)
      | (with_reducible exact impl_ProgramFault.mono _ _)
      | (with_reducible exact impl_coinOrder.mono _ _ _ _ _ _ _ _ _ _ _ _ _)
      | (with_reducible exact impl_worth.mono _ _)
      | (with_reducible exact LeO.refl _)
      | (with_reducible exact LeO.none _)
      | (with_reducible refine LeO.ite ?_ ?_)
      | (with_reducible refine LeO.bind ?_ (fun _ => ?_))
      | exact ih0 _ _ _ _
      | exact ih1 _ _ _ _ _ _ _ _ _ _ _ _
      | exact impl_ProgramFault.mono _ _
      | exact impl_coinOrder.mono _ _ _ _ _ _ _ _ _ _ _ _ _
      | exact impl_worth.mono _ _
      | exact LeO.none _
      | refine LeO.ite ?_ ?_
      | refine LeO.bind ?_ (fun _ => ?_)
theorem impl_CoinsFault.mono : ∀ a0 k, LeO (impl_CoinsFault.f k a0) (impl_CoinsFault.f (k + 1) a0) := by
  intro a0 k
  obtain ⟨ih0, ih1⟩ := impl_CoinsFault.mono_l k
  unfold impl_CoinsFault.f
  repeat' first
      | (with_reducible exact ih0 _ _ _ _)
      | (with_reducible exact ih1 _ _ _ _ _ _ _ _ _ _ _ _)
      | (with_reducible exact impl_ProgramFault.mono _ _)
      | (with_reducible exact impl_coinOrder.mono _ _ _ _ _ _ _ _ _ _ _ _ _)
      | (with_reducible exact impl_worth.mono _ _)
      | (with_reducible exact LeO.refl _)
      | (with_reducible exact LeO.none _)
      | (with_reducible refine LeO.ite ?_ ?_)
      | (with_reducible refine LeO.bind ?_ (fun _ => ?_))
      | exact ih0 _ _ _ _
      | exact ih1 _ _ _ _ _ _ _ _ _ _ _ _
      | exact impl_ProgramFault.mono _ _
      | exact impl_coinOrder.mono _ _ _ _ _ _ _ _ _ _ _ _ _
      | exact impl_worth.mono _ _
      | exact LeO.none _
      | refine LeO.ite ?_ ?_
      | refine LeO.bind ?_ (fun _ => ?_)
def impl_CoinsFault.T11 : Bool × List (List Nat × List Nat) := (true, [([], []), ([0], [0]), ([1], [1]), ([2], [2]), ([2], [2]), ([4, 2], [2, 4]), ([3, 5, 2], [2, 3, 5]), ([6, 2], [2, 6]), ([2], [2]), ([7, 8, 2, 2], [2, 7, 8]), ([9, 2], [2, 9]), ([2, 10], [2, 10])])
def impl_CoinsFault.B11 : List Nat := [0, 1, 3, 7, 7, 23, 63, 127, 7, 511, 1023, 2047]
theorem impl_CoinsFault.tab11 : rtab .any (opsOf Try.f41 11) = impl_CoinsFault.T11 := by kernel_rfl
theorem impl_CoinsFault.bits11 : waitsOk impl_CoinsFault.T11.2 impl_CoinsFault.B11 = true := by kernel_rfl
set_option maxHeartbeats 8000000 in
set_option maxRecDepth 100000 in
theorem impl_CoinsFault.calls (k : Nat) (A0 : Option Addr) (c0 : Nat) (l0 : List (S74)) (r : Int) (w : World) (hr0 : Kd.C k74 w A0 l0.length l0) (hc0 : l0.length ≤ c0) (h : impl_CoinsFault.f k l0 = some r) :
    Calls Try.prog 41 #[.slice A0 l0.length c0] w fun e w' => e = .returned (.int .i64 r) ∧ Below w.heap.size w w' := by
  have hu74 := Try.underlying74
  have HR0 := Aside0.mk hr0
  have HC0 := Aside0.mk hc0
  clear hr0 hc0
  have HB := Aside0.mk (Below.refl w.heap.size w)
  have H : (if (l0.length : Int) > 40 then (some 2) else (impl_CoinsFault.l0 k l0 l0 (l0.length : Int) 0)) = some r := h
  clear h
  by_cases c2 : (l0.length : Int) > 40
  · rw [if_pos c2] at H
    have c2b0 : decide (40 < (l0.length : Int)) = true := decide_eq_true c2
    have c2b1 : decide (40 < l0.length) = true := decide_eq_true (by omega)
    clear c2
    obtain rfl := Option.some.inj H
    go_enter Try.func41, Try.ntmps41
    go_wp2
    go_ret
    exact ⟨by first | rfl | (simp [errW_none, errW_some] <;> rfl) | (simp [*, errW_none, errW_some] <;> rfl), by repeat (first | (with_reducible first | exact HB.out | apply below_alloc | apply pw_below_drewN | apply below_drew1) | exact HB.out)⟩
  · rw [if_neg c2] at H
    have c2b0 : decide (40 < (l0.length : Int)) = false := decide_eq_false c2
    have c2b1 : decide (40 < l0.length) = false := decide_eq_false (by omega)
    clear c2
    have H' := Aside0.mk H
    clear H
    go_enter Try.func41, Try.ntmps41
    go_wp2
    go_loopg [11] k (fun kq v11 w' => ∃ (x11_1 : Int), v11 = .int .i64 x11_1 ∧ Aside0 (impl_CoinsFault.l0 kq l0 l0 (l0.length : Int) x11_1 = some r) ∧ Aside0 (kq ≤ k) ∧ Aside0 (Below w.heap.size w w'))
    case atStart => exact ⟨(0), (by first | rfl | (simp; done) | (simp [*]; done)), H', ⟨Nat.le_refl _⟩, ⟨by repeat (first | (with_reducible first | exact HB.out | apply below_alloc | apply pw_below_drewN | apply below_drew1) | exact HB.out)⟩⟩
    case round =>
      clear H'
      try clear c2
      try clear c2b0
      try clear c2b1
      try clear p2
      obtain ⟨x11_1, rfl, HA, HK1, HB⟩ := hrel
      cases gk with
      | zero => exact absurd HA.out (by simp [impl_CoinsFault.l0])
      | succ k1 =>
        have H := HA.out
        clear HA
        simp only [impl_CoinsFault.l0] at H
        by_cases c3 : x11_1 < (l0.length : Int)
        · rw [if_pos c3] at H
          have c3b0 : decide (x11_1 < (l0.length : Int)) = true := decide_eq_true c3
          clear c3
          by_cases c4 : 0 ≤ x11_1
          · rw [if_pos c4] at H
            have c4b0 : decide (0 ≤ x11_1) = true := decide_eq_true c4
            clear c4
            by_cases c5 : x11_1 < (l0.length : Int)
            · rw [if_pos c5] at H
              have c5b0 : decide (x11_1 < (l0.length : Int)) = true := decide_eq_true c5
              clear c5
              have HC6 := Aside0.mk H
              clear H
              have p206 : 0 ≤ (x11_1 : Int) := of_decide_eq_true (by first | (with_reducible assumption) | assumption)
              have q206 : x11_1 < (l0.length : Int) := of_decide_eq_true (by first | (with_reducible assumption) | assumption)
              obtain ⟨ad206, A206_3, c206_3, e206, hx206_0, hx206_1, hx206_2, hx206_3, hx206_4, hx206_5, hl206_3, hi206_3⟩ := at_T74 HR0.out x11_1 p206 q206
              cases e206
              replace hx206_0 := (HB.out.cell (World.block_lt_of_cell? w _ hx206_0)).trans hx206_0
              replace hx206_1 := (HB.out.cell (World.block_lt_of_cell? w _ hx206_1)).trans hx206_1
              replace hx206_2 := (HB.out.cell (World.block_lt_of_cell? w _ hx206_2)).trans hx206_2
              replace hx206_3 := (HB.out.cell (World.block_lt_of_cell? w _ hx206_3)).trans hx206_3
              replace hx206_4 := (HB.out.cell (World.block_lt_of_cell? w _ hx206_4)).trans hx206_4
              replace hx206_5 := (HB.out.cell (World.block_lt_of_cell? w _ hx206_5)).trans hx206_5
              have HR206_3 := Aside0.mk hi206_3
              have HC206_3 := Aside0.mk hl206_3
              clear hi206_3 hl206_3
              replace p206 := eq_true p206
              replace q206 := eq_true q206
              go_upto_region 6 with (first | ((with_reducible refine gate_dst (N := 4) rfl ?_); refine box_event ?hg (N := 4) ?hd (cs := #[.int .i64 0, .int .i64 0, .int .i64 0, .slice none 0 0, .int .i64 0, .bool false]) (t := 74) ?hr ?_; (case hd => rfl); (case hg => rfl); (case hr => first | (go_simp; done) | (go_simp; rfl)); intro gb207 hg w7 hbox hb; have n0_ := Aside0.mk (below_step (by repeat (first | (with_reducible first | exact HB.out | apply below_alloc | apply pw_below_drewN | apply below_drew1) | exact HB.out)) hb); have n1_ := Aside0.mk (hbox); have n2_ := Aside0.mk ((by rw [hg]; exact (below_size (by repeat (first | (with_reducible first | exact HB.out | apply below_alloc | apply pw_below_drewN | apply below_drew1) | exact HB.out))) : w.heap.size ≤ gb207)); have n3_ := Aside0.mk ((by rw [hg]; exact (below_size (by repeat (first | (with_reducible first | exact HB.out | apply below_alloc | apply pw_below_drewN | apply below_drew1) | exact HB.out))) : w.heap.size ≤ gb207)); clear HB; have HB := n0_; have BK207 := n1_; have GW207 := n2_; have GE207 := n3_; clear n0_ n1_ n2_ n3_; clear hb hbox hg; have hcz8_0 : w7.cell? ⟨gb207, 0, none⟩ = some (.int .i64 0) := (blk_cell BK207.out 0).trans rfl; have hcz8_1 : w7.cell? ⟨gb207, 1, none⟩ = some (.int .i64 0) := (blk_cell BK207.out 1).trans rfl; have hcz8_2 : w7.cell? ⟨gb207, 2, none⟩ = some (.int .i64 0) := (blk_cell BK207.out 2).trans rfl; have hcz8_3 : w7.cell? ⟨gb207, 3, none⟩ = some (.slice none 0 0) := (blk_cell BK207.out 3).trans rfl; have hcz8_4 : w7.cell? ⟨gb207, 4, none⟩ = some (.int .i64 0) := (blk_cell BK207.out 4).trans rfl; have hcz8_5 : w7.cell? ⟨gb207, 5, none⟩ = some (.bool false) := (blk_cell BK207.out 5).trans rfl; have hfz8_0 := blk_frozen BK207.out 0; have hfz8_1 := blk_frozen BK207.out 1; have hfz8_2 := blk_frozen BK207.out 2; have hfz8_3 := blk_frozen BK207.out 3; have hfz8_4 := blk_frozen BK207.out 4; have hfz8_5 := blk_frozen BK207.out 5))
              (try simp only [Act.put, List.setIfInBounds_toArray, List.set_cons_zero, List.set_cons_succ])
              go_cut [37] (fun v37 wc => ∃ (kq : Nat) (x37_5 : Bool), v37 = .bool x37_5 ∧ Aside0 (impl_CoinsFault.j1 kq l0 x11_1 l0 (l0.length : Int) x11_1 x37_5 ((rd_T74 l0 x11_1).f0) ((rd_T74 l0 x11_1).f1) ((rd_T74 l0 x11_1).f2) ((rd_T74 l0 x11_1).f3) ((rd_T74 l0 x11_1).f4) ((rd_T74 l0 x11_1).f5) = some r) ∧ Aside0 (kq ≤ k1) ∧ Aside0 (wc.heap[gb207]? = some (.cells #[.int .i64 ((rd_T74 l0 x11_1).f0), .int .i64 ((rd_T74 l0 x11_1).f1), .int .i64 ((rd_T74 l0 x11_1).f2), (.slice A206_3 ((rd_T74 l0 x11_1).f3).length c206_3), .int .i64 ((rd_T74 l0 x11_1).f4), .bool ((rd_T74 l0 x11_1).f5)] 74 (0, 0))) ∧ Aside0 (Below w.heap.size w wc))
              case first =>
                have H := HC6.out
                clear HC6
                replace H := Option.bind_eq_some_iff.mp H
                obtain ⟨t208, A90, H⟩ := H
                replace H : (if t208 = true then ((impl_in.f ((rd_T74 l0 x11_1).f1) 0 3).bind fun t209 => (if t209 = true then ((impl_isAmount.f ((rd_T74 l0 x11_1).f2)).bind fun t210 => (if t210 = true then ((impl_isHeight.f ((rd_T74 l0 x11_1).f4)).bind fun t211 => (impl_CoinsFault.j1 k1 l0 x11_1 l0 (l0.length : Int) x11_1 (!t211) ((rd_T74 l0 x11_1).f0) ((rd_T74 l0 x11_1).f1) ((rd_T74 l0 x11_1).f2) ((rd_T74 l0 x11_1).f3) ((rd_T74 l0 x11_1).f4) ((rd_T74 l0 x11_1).f5))) else (impl_CoinsFault.j1 k1 l0 x11_1 l0 (l0.length : Int) x11_1 true ((rd_T74 l0 x11_1).f0) ((rd_T74 l0 x11_1).f1) ((rd_T74 l0 x11_1).f2) ((rd_T74 l0 x11_1).f3) ((rd_T74 l0 x11_1).f4) ((rd_T74 l0 x11_1).f5)))) else (impl_CoinsFault.j1 k1 l0 x11_1 l0 (l0.length : Int) x11_1 true ((rd_T74 l0 x11_1).f0) ((rd_T74 l0 x11_1).f1) ((rd_T74 l0 x11_1).f2) ((rd_T74 l0 x11_1).f3) ((rd_T74 l0 x11_1).f4) ((rd_T74 l0 x11_1).f5)))) else (impl_CoinsFault.j1 k1 l0 x11_1 l0 (l0.length : Int) x11_1 true ((rd_T74 l0 x11_1).f0) ((rd_T74 l0 x11_1).f1) ((rd_T74 l0 x11_1).f2) ((rd_T74 l0 x11_1).f3) ((rd_T74 l0 x11_1).f4) ((rd_T74 l0 x11_1).f5))) = some r := H
                have A9 := Aside0.mk A90
                clear A90
                by_cases c10 : t208 = true
                · subst c10
                  have H1 : ((impl_in.f ((rd_T74 l0 x11_1).f1) 0 3).bind fun t209 => (if t209 = true then ((impl_isAmount.f ((rd_T74 l0 x11_1).f2)).bind fun t210 => (if t210 = true then ((impl_isHeight.f ((rd_T74 l0 x11_1).f4)).bind fun t211 => (impl_CoinsFault.j1 k1 l0 x11_1 l0 (l0.length : Int) x11_1 (!t211) ((rd_T74 l0 x11_1).f0) ((rd_T74 l0 x11_1).f1) ((rd_T74 l0 x11_1).f2) ((rd_T74 l0 x11_1).f3) ((rd_T74 l0 x11_1).f4) ((rd_T74 l0 x11_1).f5))) else (impl_CoinsFault.j1 k1 l0 x11_1 l0 (l0.length : Int) x11_1 true ((rd_T74 l0 x11_1).f0) ((rd_T74 l0 x11_1).f1) ((rd_T74 l0 x11_1).f2) ((rd_T74 l0 x11_1).f3) ((rd_T74 l0 x11_1).f4) ((rd_T74 l0 x11_1).f5)))) else (impl_CoinsFault.j1 k1 l0 x11_1 l0 (l0.length : Int) x11_1 true ((rd_T74 l0 x11_1).f0) ((rd_T74 l0 x11_1).f1) ((rd_T74 l0 x11_1).f2) ((rd_T74 l0 x11_1).f3) ((rd_T74 l0 x11_1).f4) ((rd_T74 l0 x11_1).f5)))) = some r := by rw [if_pos rfl] at H; exact H
                  clear H
                  have H := H1
                  clear H1
                  replace H := Option.bind_eq_some_iff.mp H
                  obtain ⟨t209, A110, H⟩ := H
                  replace H : (if t209 = true then ((impl_isAmount.f ((rd_T74 l0 x11_1).f2)).bind fun t210 => (if t210 = true then ((impl_isHeight.f ((rd_T74 l0 x11_1).f4)).bind fun t211 => (impl_CoinsFault.j1 k1 l0 x11_1 l0 (l0.length : Int) x11_1 (!t211) ((rd_T74 l0 x11_1).f0) ((rd_T74 l0 x11_1).f1) ((rd_T74 l0 x11_1).f2) ((rd_T74 l0 x11_1).f3) ((rd_T74 l0 x11_1).f4) ((rd_T74 l0 x11_1).f5))) else (impl_CoinsFault.j1 k1 l0 x11_1 l0 (l0.length : Int) x11_1 true ((rd_T74 l0 x11_1).f0) ((rd_T74 l0 x11_1).f1) ((rd_T74 l0 x11_1).f2) ((rd_T74 l0 x11_1).f3) ((rd_T74 l0 x11_1).f4) ((rd_T74 l0 x11_1).f5)))) else (impl_CoinsFault.j1 k1 l0 x11_1 l0 (l0.length : Int) x11_1 true ((rd_T74 l0 x11_1).f0) ((rd_T74 l0 x11_1).f1) ((rd_T74 l0 x11_1).f2) ((rd_T74 l0 x11_1).f3) ((rd_T74 l0 x11_1).f4) ((rd_T74 l0 x11_1).f5))) = some r := H
                  have A11 := Aside0.mk A110
                  clear A110
                  by_cases c12 : t209 = true
                  · subst c12
                    have H1 : ((impl_isAmount.f ((rd_T74 l0 x11_1).f2)).bind fun t210 => (if t210 = true then ((impl_isHeight.f ((rd_T74 l0 x11_1).f4)).bind fun t211 => (impl_CoinsFault.j1 k1 l0 x11_1 l0 (l0.length : Int) x11_1 (!t211) ((rd_T74 l0 x11_1).f0) ((rd_T74 l0 x11_1).f1) ((rd_T74 l0 x11_1).f2) ((rd_T74 l0 x11_1).f3) ((rd_T74 l0 x11_1).f4) ((rd_T74 l0 x11_1).f5))) else (impl_CoinsFault.j1 k1 l0 x11_1 l0 (l0.length : Int) x11_1 true ((rd_T74 l0 x11_1).f0) ((rd_T74 l0 x11_1).f1) ((rd_T74 l0 x11_1).f2) ((rd_T74 l0 x11_1).f3) ((rd_T74 l0 x11_1).f4) ((rd_T74 l0 x11_1).f5)))) = some r := by rw [if_pos rfl] at H; exact H
                    clear H
                    have H := H1
                    clear H1
                    replace H := Option.bind_eq_some_iff.mp H
                    obtain ⟨t210, A130, H⟩ := H
                    replace H : (if t210 = true then ((impl_isHeight.f ((rd_T74 l0 x11_1).f4)).bind fun t211 => (impl_CoinsFault.j1 k1 l0 x11_1 l0 (l0.length : Int) x11_1 (!t211) ((rd_T74 l0 x11_1).f0) ((rd_T74 l0 x11_1).f1) ((rd_T74 l0 x11_1).f2) ((rd_T74 l0 x11_1).f3) ((rd_T74 l0 x11_1).f4) ((rd_T74 l0 x11_1).f5))) else (impl_CoinsFault.j1 k1 l0 x11_1 l0 (l0.length : Int) x11_1 true ((rd_T74 l0 x11_1).f0) ((rd_T74 l0 x11_1).f1) ((rd_T74 l0 x11_1).f2) ((rd_T74 l0 x11_1).f3) ((rd_T74 l0 x11_1).f4) ((rd_T74 l0 x11_1).f5))) = some r := H
                    have A13 := Aside0.mk A130
                    clear A130
                    by_cases c14 : t210 = true
                    · subst c14
                      have H1 : ((impl_isHeight.f ((rd_T74 l0 x11_1).f4)).bind fun t211 => (impl_CoinsFault.j1 k1 l0 x11_1 l0 (l0.length : Int) x11_1 (!t211) ((rd_T74 l0 x11_1).f0) ((rd_T74 l0 x11_1).f1) ((rd_T74 l0 x11_1).f2) ((rd_T74 l0 x11_1).f3) ((rd_T74 l0 x11_1).f4) ((rd_T74 l0 x11_1).f5))) = some r := by rw [if_pos rfl] at H; exact H
                      clear H
                      have H := H1
                      clear H1
                      replace H := Option.bind_eq_some_iff.mp H
                      obtain ⟨t211, A150, H⟩ := H
                      replace H : (impl_CoinsFault.j1 k1 l0 x11_1 l0 (l0.length : Int) x11_1 (!t211) ((rd_T74 l0 x11_1).f0) ((rd_T74 l0 x11_1).f1) ((rd_T74 l0 x11_1).f2) ((rd_T74 l0 x11_1).f3) ((rd_T74 l0 x11_1).f4) ((rd_T74 l0 x11_1).f5)) = some r := H
                      have A15 := Aside0.mk A150
                      clear A150
                      have H' := Aside0.mk H
                      clear H
                      have hcz16_0 : w7.cell? ⟨gb207, 0, none⟩ = some (.int .i64 0) := (blk_cell BK207.out 0).trans rfl
                      have hcz16_1 : w7.cell? ⟨gb207, 1, none⟩ = some (.int .i64 0) := (blk_cell BK207.out 1).trans rfl
                      have hcz16_2 : w7.cell? ⟨gb207, 2, none⟩ = some (.int .i64 0) := (blk_cell BK207.out 2).trans rfl
                      have hcz16_3 : w7.cell? ⟨gb207, 3, none⟩ = some (.slice none 0 0) := (blk_cell BK207.out 3).trans rfl
                      have hcz16_4 : w7.cell? ⟨gb207, 4, none⟩ = some (.int .i64 0) := (blk_cell BK207.out 4).trans rfl
                      have hcz16_5 : w7.cell? ⟨gb207, 5, none⟩ = some (.bool false) := (blk_cell BK207.out 5).trans rfl
                      have hfz16_0 := blk_frozen BK207.out 0
                      have hfz16_1 := blk_frozen BK207.out 1
                      have hfz16_2 := blk_frozen BK207.out 2
                      have hfz16_3 := blk_frozen BK207.out 3
                      have hfz16_4 := blk_frozen BK207.out 4
                      have hfz16_5 := blk_frozen BK207.out 5
                      go_wp2_with (first | ((with_reducible refine gate_callee (f := 77) rfl ?_); refine goesL_ (some 18) rfl rfl Try.func77 (by kernel_rfl) rfl #[.int .i64 ((rd_T74 l0 x11_1).f0)] rfl (by (try simp only [List.map_toArray, List.map_cons, List.map_nil]); first | done | rfl | (simp only [List.length_drop, List.length_take]; rfl)) ?_; (with_reducible refine (impl_isSum.calls ((rd_T74 l0 x11_1).f0) true _ A9.out).mono ?_); rintro e w' ⟨rfl, ⟨nd, rfl⟩⟩; refine ⟨_, rfl, ?_⟩) | (go_at_call 110; (with_reducible refine (impl_in.calls ((rd_T74 l0 x11_1).f1) 0 3 true _ A11.out).mono ?_); rintro e w' ⟨rfl, ⟨nd, rfl⟩⟩) | (go_at_call 85; (with_reducible refine (impl_isAmount.calls ((rd_T74 l0 x11_1).f2) true _ A13.out).mono ?_); rintro e w' ⟨rfl, ⟨nd, rfl⟩⟩) | (go_at_call 111; (with_reducible refine (impl_isHeight.calls ((rd_T74 l0 x11_1).f4) t211 _ A15.out).mono ?_); rintro e w' ⟨rfl, ⟨nd, rfl⟩⟩))
                      go_meet
                      case rel => exact ⟨_, (!t211), (by first | rfl | (simp; done) | (simp [*]; done)), H', ⟨by have := HK1.out; first | omega | exact Nat.le_refl _⟩, ⟨by (with_reducible repeat (first | refine blk_drewN ?_ _ | refine blk_drew ?_ | refine blk_alloc ?_ _)); refine blk_put (cs := #[.int .i64 ((rd_T74 l0 x11_1).f0), .int .i64 ((rd_T74 l0 x11_1).f1), .int .i64 ((rd_T74 l0 x11_1).f2), .slice A206_3 ((rd_T74 l0 x11_1).f3).length c206_3, .int .i64 ((rd_T74 l0 x11_1).f4), .bool false]) ?_ 5 _ rfl; (with_reducible repeat (first | refine blk_drewN ?_ _ | refine blk_drew ?_ | refine blk_alloc ?_ _)); refine blk_put (cs := #[.int .i64 ((rd_T74 l0 x11_1).f0), .int .i64 ((rd_T74 l0 x11_1).f1), .int .i64 ((rd_T74 l0 x11_1).f2), .slice A206_3 ((rd_T74 l0 x11_1).f3).length c206_3, .int .i64 0, .bool false]) ?_ 4 _ rfl; (with_reducible repeat (first | refine blk_drewN ?_ _ | refine blk_drew ?_ | refine blk_alloc ?_ _)); refine blk_put (cs := #[.int .i64 ((rd_T74 l0 x11_1).f0), .int .i64 ((rd_T74 l0 x11_1).f1), .int .i64 ((rd_T74 l0 x11_1).f2), .slice none 0 0, .int .i64 0, .bool false]) ?_ 3 _ rfl; (with_reducible repeat (first | refine blk_drewN ?_ _ | refine blk_drew ?_ | refine blk_alloc ?_ _)); refine blk_put (cs := #[.int .i64 ((rd_T74 l0 x11_1).f0), .int .i64 ((rd_T74 l0 x11_1).f1), .int .i64 0, .slice none 0 0, .int .i64 0, .bool false]) ?_ 2 _ rfl; (with_reducible repeat (first | refine blk_drewN ?_ _ | refine blk_drew ?_ | refine blk_alloc ?_ _)); refine blk_put (cs := #[.int .i64 ((rd_T74 l0 x11_1).f0), .int .i64 0, .int .i64 0, .slice none 0 0, .int .i64 0, .bool false]) ?_ 1 _ rfl; (with_reducible repeat (first | refine blk_drewN ?_ _ | refine blk_drew ?_ | refine blk_alloc ?_ _)); refine blk_put (cs := #[.int .i64 0, .int .i64 0, .int .i64 0, .slice none 0 0, .int .i64 0, .bool false]) ?_ 0 _ rfl; (with_reducible repeat (first | refine blk_drewN ?_ _ | refine blk_drew ?_ | refine blk_alloc ?_ _)); exact BK207.out⟩, ⟨by repeat (first | (with_reducible first | exact HB.out | apply below_alloc | apply pw_below_drewN | apply below_drew1 | refine below_set ?_ GE207.out) | exact HB.out)⟩⟩
                    · replace c14 := Bool.eq_false_iff.mpr c14
                      subst c14
                      have H1 : (impl_CoinsFault.j1 k1 l0 x11_1 l0 (l0.length : Int) x11_1 true ((rd_T74 l0 x11_1).f0) ((rd_T74 l0 x11_1).f1) ((rd_T74 l0 x11_1).f2) ((rd_T74 l0 x11_1).f3) ((rd_T74 l0 x11_1).f4) ((rd_T74 l0 x11_1).f5)) = some r := by rw [if_neg (show ¬ (false = true) by decide)] at H; exact H
                      clear H
                      have H := H1
                      clear H1
                      have H' := Aside0.mk H
                      clear H
                      have hcz17_0 : w7.cell? ⟨gb207, 0, none⟩ = some (.int .i64 0) := (blk_cell BK207.out 0).trans rfl
                      have hcz17_1 : w7.cell? ⟨gb207, 1, none⟩ = some (.int .i64 0) := (blk_cell BK207.out 1).trans rfl
                      have hcz17_2 : w7.cell? ⟨gb207, 2, none⟩ = some (.int .i64 0) := (blk_cell BK207.out 2).trans rfl
                      have hcz17_3 : w7.cell? ⟨gb207, 3, none⟩ = some (.slice none 0 0) := (blk_cell BK207.out 3).trans rfl
                      have hcz17_4 : w7.cell? ⟨gb207, 4, none⟩ = some (.int .i64 0) := (blk_cell BK207.out 4).trans rfl
                      have hcz17_5 : w7.cell? ⟨gb207, 5, none⟩ = some (.bool false) := (blk_cell BK207.out 5).trans rfl
                      have hfz17_0 := blk_frozen BK207.out 0
                      have hfz17_1 := blk_frozen BK207.out 1
                      have hfz17_2 := blk_frozen BK207.out 2
                      have hfz17_3 := blk_frozen BK207.out 3
                      have hfz17_4 := blk_frozen BK207.out 4
                      have hfz17_5 := blk_frozen BK207.out 5
                      go_wp2_with (first | ((with_reducible refine gate_callee (f := 77) rfl ?_); refine goesL_ (some 18) rfl rfl Try.func77 (by kernel_rfl) rfl #[.int .i64 ((rd_T74 l0 x11_1).f0)] rfl (by (try simp only [List.map_toArray, List.map_cons, List.map_nil]); first | done | rfl | (simp only [List.length_drop, List.length_take]; rfl)) ?_; (with_reducible refine (impl_isSum.calls ((rd_T74 l0 x11_1).f0) true _ A9.out).mono ?_); rintro e w' ⟨rfl, ⟨nd, rfl⟩⟩; refine ⟨_, rfl, ?_⟩) | (go_at_call 110; (with_reducible refine (impl_in.calls ((rd_T74 l0 x11_1).f1) 0 3 true _ A11.out).mono ?_); rintro e w' ⟨rfl, ⟨nd, rfl⟩⟩) | (go_at_call 85; (with_reducible refine (impl_isAmount.calls ((rd_T74 l0 x11_1).f2) false _ A13.out).mono ?_); rintro e w' ⟨rfl, ⟨nd, rfl⟩⟩))
                      go_meet
                      case rel => exact ⟨_, (true), (by first | rfl | (simp; done) | (simp [*]; done)), H', ⟨by have := HK1.out; first | omega | exact Nat.le_refl _⟩, ⟨by (with_reducible repeat (first | refine blk_drewN ?_ _ | refine blk_drew ?_ | refine blk_alloc ?_ _)); refine blk_put (cs := #[.int .i64 ((rd_T74 l0 x11_1).f0), .int .i64 ((rd_T74 l0 x11_1).f1), .int .i64 ((rd_T74 l0 x11_1).f2), .slice A206_3 ((rd_T74 l0 x11_1).f3).length c206_3, .int .i64 ((rd_T74 l0 x11_1).f4), .bool false]) ?_ 5 _ rfl; (with_reducible repeat (first | refine blk_drewN ?_ _ | refine blk_drew ?_ | refine blk_alloc ?_ _)); refine blk_put (cs := #[.int .i64 ((rd_T74 l0 x11_1).f0), .int .i64 ((rd_T74 l0 x11_1).f1), .int .i64 ((rd_T74 l0 x11_1).f2), .slice A206_3 ((rd_T74 l0 x11_1).f3).length c206_3, .int .i64 0, .bool false]) ?_ 4 _ rfl; (with_reducible repeat (first | refine blk_drewN ?_ _ | refine blk_drew ?_ | refine blk_alloc ?_ _)); refine blk_put (cs := #[.int .i64 ((rd_T74 l0 x11_1).f0), .int .i64 ((rd_T74 l0 x11_1).f1), .int .i64 ((rd_T74 l0 x11_1).f2), .slice none 0 0, .int .i64 0, .bool false]) ?_ 3 _ rfl; (with_reducible repeat (first | refine blk_drewN ?_ _ | refine blk_drew ?_ | refine blk_alloc ?_ _)); refine blk_put (cs := #[.int .i64 ((rd_T74 l0 x11_1).f0), .int .i64 ((rd_T74 l0 x11_1).f1), .int .i64 0, .slice none 0 0, .int .i64 0, .bool false]) ?_ 2 _ rfl; (with_reducible repeat (first | refine blk_drewN ?_ _ | refine blk_drew ?_ | refine blk_alloc ?_ _)); refine blk_put (cs := #[.int .i64 ((rd_T74 l0 x11_1).f0), .int .i64 0, .int .i64 0, .slice none 0 0, .int .i64 0, .bool false]) ?_ 1 _ rfl; (with_reducible repeat (first | refine blk_drewN ?_ _ | refine blk_drew ?_ | refine blk_alloc ?_ _)); refine blk_put (cs := #[.int .i64 0, .int .i64 0, .int .i64 0, .slice none 0 0, .int .i64 0, .bool false]) ?_ 0 _ rfl; (with_reducible repeat (first | refine blk_drewN ?_ _ | refine blk_drew ?_ | refine blk_alloc ?_ _)); exact BK207.out⟩, ⟨by repeat (first | (with_reducible first | exact HB.out | apply below_alloc | apply pw_below_drewN | apply below_drew1 | refine below_set ?_ GE207.out) | exact HB.out)⟩⟩
                  · replace c12 := Bool.eq_false_iff.mpr c12
                    subst c12
                    have H1 : (impl_CoinsFault.j1 k1 l0 x11_1 l0 (l0.length : Int) x11_1 true ((rd_T74 l0 x11_1).f0) ((rd_T74 l0 x11_1).f1) ((rd_T74 l0 x11_1).f2) ((rd_T74 l0 x11_1).f3) ((rd_T74 l0 x11_1).f4) ((rd_T74 l0 x11_1).f5)) = some r := by rw [if_neg (show ¬ (false = true) by decide)] at H; exact H
                    clear H
                    have H := H1
                    clear H1
                    have H' := Aside0.mk H
                    clear H
                    have hcz18_0 : w7.cell? ⟨gb207, 0, none⟩ = some (.int .i64 0) := (blk_cell BK207.out 0).trans rfl
                    have hcz18_1 : w7.cell? ⟨gb207, 1, none⟩ = some (.int .i64 0) := (blk_cell BK207.out 1).trans rfl
                    have hcz18_2 : w7.cell? ⟨gb207, 2, none⟩ = some (.int .i64 0) := (blk_cell BK207.out 2).trans rfl
                    have hcz18_3 : w7.cell? ⟨gb207, 3, none⟩ = some (.slice none 0 0) := (blk_cell BK207.out 3).trans rfl
                    have hcz18_4 : w7.cell? ⟨gb207, 4, none⟩ = some (.int .i64 0) := (blk_cell BK207.out 4).trans rfl
                    have hcz18_5 : w7.cell? ⟨gb207, 5, none⟩ = some (.bool false) := (blk_cell BK207.out 5).trans rfl
                    have hfz18_0 := blk_frozen BK207.out 0
                    have hfz18_1 := blk_frozen BK207.out 1
                    have hfz18_2 := blk_frozen BK207.out 2
                    have hfz18_3 := blk_frozen BK207.out 3
                    have hfz18_4 := blk_frozen BK207.out 4
                    have hfz18_5 := blk_frozen BK207.out 5
                    go_wp2_with (first | ((with_reducible refine gate_callee (f := 77) rfl ?_); refine goesL_ (some 18) rfl rfl Try.func77 (by kernel_rfl) rfl #[.int .i64 ((rd_T74 l0 x11_1).f0)] rfl (by (try simp only [List.map_toArray, List.map_cons, List.map_nil]); first | done | rfl | (simp only [List.length_drop, List.length_take]; rfl)) ?_; (with_reducible refine (impl_isSum.calls ((rd_T74 l0 x11_1).f0) true _ A9.out).mono ?_); rintro e w' ⟨rfl, ⟨nd, rfl⟩⟩; refine ⟨_, rfl, ?_⟩) | (go_at_call 110; (with_reducible refine (impl_in.calls ((rd_T74 l0 x11_1).f1) 0 3 false _ A11.out).mono ?_); rintro e w' ⟨rfl, ⟨nd, rfl⟩⟩))
                    go_meet
                    case rel => exact ⟨_, (true), (by first | rfl | (simp; done) | (simp [*]; done)), H', ⟨by have := HK1.out; first | omega | exact Nat.le_refl _⟩, ⟨by (with_reducible repeat (first | refine blk_drewN ?_ _ | refine blk_drew ?_ | refine blk_alloc ?_ _)); refine blk_put (cs := #[.int .i64 ((rd_T74 l0 x11_1).f0), .int .i64 ((rd_T74 l0 x11_1).f1), .int .i64 ((rd_T74 l0 x11_1).f2), .slice A206_3 ((rd_T74 l0 x11_1).f3).length c206_3, .int .i64 ((rd_T74 l0 x11_1).f4), .bool false]) ?_ 5 _ rfl; (with_reducible repeat (first | refine blk_drewN ?_ _ | refine blk_drew ?_ | refine blk_alloc ?_ _)); refine blk_put (cs := #[.int .i64 ((rd_T74 l0 x11_1).f0), .int .i64 ((rd_T74 l0 x11_1).f1), .int .i64 ((rd_T74 l0 x11_1).f2), .slice A206_3 ((rd_T74 l0 x11_1).f3).length c206_3, .int .i64 0, .bool false]) ?_ 4 _ rfl; (with_reducible repeat (first | refine blk_drewN ?_ _ | refine blk_drew ?_ | refine blk_alloc ?_ _)); refine blk_put (cs := #[.int .i64 ((rd_T74 l0 x11_1).f0), .int .i64 ((rd_T74 l0 x11_1).f1), .int .i64 ((rd_T74 l0 x11_1).f2), .slice none 0 0, .int .i64 0, .bool false]) ?_ 3 _ rfl; (with_reducible repeat (first | refine blk_drewN ?_ _ | refine blk_drew ?_ | refine blk_alloc ?_ _)); refine blk_put (cs := #[.int .i64 ((rd_T74 l0 x11_1).f0), .int .i64 ((rd_T74 l0 x11_1).f1), .int .i64 0, .slice none 0 0, .int .i64 0, .bool false]) ?_ 2 _ rfl; (with_reducible repeat (first | refine blk_drewN ?_ _ | refine blk_drew ?_ | refine blk_alloc ?_ _)); refine blk_put (cs := #[.int .i64 ((rd_T74 l0 x11_1).f0), .int .i64 0, .int .i64 0, .slice none 0 0, .int .i64 0, .bool false]) ?_ 1 _ rfl; (with_reducible repeat (first | refine blk_drewN ?_ _ | refine blk_drew ?_ | refine blk_alloc ?_ _)); refine blk_put (cs := #[.int .i64 0, .int .i64 0, .int .i64 0, .slice none 0 0, .int .i64 0, .bool false]) ?_ 0 _ rfl; (with_reducible repeat (first | refine blk_drewN ?_ _ | refine blk_drew ?_ | refine blk_alloc ?_ _)); exact BK207.out⟩, ⟨by repeat (first | (with_reducible first | exact HB.out | apply below_alloc | apply pw_below_drewN | apply below_drew1 | refine below_set ?_ GE207.out) | exact HB.out)⟩⟩
                · replace c10 := Bool.eq_false_iff.mpr c10
                  subst c10
                  have H1 : (impl_CoinsFault.j1 k1 l0 x11_1 l0 (l0.length : Int) x11_1 true ((rd_T74 l0 x11_1).f0) ((rd_T74 l0 x11_1).f1) ((rd_T74 l0 x11_1).f2) ((rd_T74 l0 x11_1).f3) ((rd_T74 l0 x11_1).f4) ((rd_T74 l0 x11_1).f5)) = some r := by rw [if_neg (show ¬ (false = true) by decide)] at H; exact H
                  clear H
                  have H := H1
                  clear H1
                  have H' := Aside0.mk H
                  clear H
                  have hcz19_0 : w7.cell? ⟨gb207, 0, none⟩ = some (.int .i64 0) := (blk_cell BK207.out 0).trans rfl
                  have hcz19_1 : w7.cell? ⟨gb207, 1, none⟩ = some (.int .i64 0) := (blk_cell BK207.out 1).trans rfl
                  have hcz19_2 : w7.cell? ⟨gb207, 2, none⟩ = some (.int .i64 0) := (blk_cell BK207.out 2).trans rfl
                  have hcz19_3 : w7.cell? ⟨gb207, 3, none⟩ = some (.slice none 0 0) := (blk_cell BK207.out 3).trans rfl
                  have hcz19_4 : w7.cell? ⟨gb207, 4, none⟩ = some (.int .i64 0) := (blk_cell BK207.out 4).trans rfl
                  have hcz19_5 : w7.cell? ⟨gb207, 5, none⟩ = some (.bool false) := (blk_cell BK207.out 5).trans rfl
                  have hfz19_0 := blk_frozen BK207.out 0
                  have hfz19_1 := blk_frozen BK207.out 1
                  have hfz19_2 := blk_frozen BK207.out 2
                  have hfz19_3 := blk_frozen BK207.out 3
                  have hfz19_4 := blk_frozen BK207.out 4
                  have hfz19_5 := blk_frozen BK207.out 5
                  go_wp2_with (first | ((with_reducible refine gate_callee (f := 77) rfl ?_); refine goesL_ (some 18) rfl rfl Try.func77 (by kernel_rfl) rfl #[.int .i64 ((rd_T74 l0 x11_1).f0)] rfl (by (try simp only [List.map_toArray, List.map_cons, List.map_nil]); first | done | rfl | (simp only [List.length_drop, List.length_take]; rfl)) ?_; (with_reducible refine (impl_isSum.calls ((rd_T74 l0 x11_1).f0) false _ A9.out).mono ?_); rintro e w' ⟨rfl, ⟨nd, rfl⟩⟩; refine ⟨_, rfl, ?_⟩))
                  go_meet
                  case rel => exact ⟨_, (true), (by first | rfl | (simp; done) | (simp [*]; done)), H', ⟨by have := HK1.out; first | omega | exact Nat.le_refl _⟩, ⟨by (with_reducible repeat (first | refine blk_drewN ?_ _ | refine blk_drew ?_ | refine blk_alloc ?_ _)); refine blk_put (cs := #[.int .i64 ((rd_T74 l0 x11_1).f0), .int .i64 ((rd_T74 l0 x11_1).f1), .int .i64 ((rd_T74 l0 x11_1).f2), .slice A206_3 ((rd_T74 l0 x11_1).f3).length c206_3, .int .i64 ((rd_T74 l0 x11_1).f4), .bool false]) ?_ 5 _ rfl; (with_reducible repeat (first | refine blk_drewN ?_ _ | refine blk_drew ?_ | refine blk_alloc ?_ _)); refine blk_put (cs := #[.int .i64 ((rd_T74 l0 x11_1).f0), .int .i64 ((rd_T74 l0 x11_1).f1), .int .i64 ((rd_T74 l0 x11_1).f2), .slice A206_3 ((rd_T74 l0 x11_1).f3).length c206_3, .int .i64 0, .bool false]) ?_ 4 _ rfl; (with_reducible repeat (first | refine blk_drewN ?_ _ | refine blk_drew ?_ | refine blk_alloc ?_ _)); refine blk_put (cs := #[.int .i64 ((rd_T74 l0 x11_1).f0), .int .i64 ((rd_T74 l0 x11_1).f1), .int .i64 ((rd_T74 l0 x11_1).f2), .slice none 0 0, .int .i64 0, .bool false]) ?_ 3 _ rfl; (with_reducible repeat (first | refine blk_drewN ?_ _ | refine blk_drew ?_ | refine blk_alloc ?_ _)); refine blk_put (cs := #[.int .i64 ((rd_T74 l0 x11_1).f0), .int .i64 ((rd_T74 l0 x11_1).f1), .int .i64 0, .slice none 0 0, .int .i64 0, .bool false]) ?_ 2 _ rfl; (with_reducible repeat (first | refine blk_drewN ?_ _ | refine blk_drew ?_ | refine blk_alloc ?_ _)); refine blk_put (cs := #[.int .i64 ((rd_T74 l0 x11_1).f0), .int .i64 0, .int .i64 0, .slice none 0 0, .int .i64 0, .bool false]) ?_ 1 _ rfl; (with_reducible repeat (first | refine blk_drewN ?_ _ | refine blk_drew ?_ | refine blk_alloc ?_ _)); refine blk_put (cs := #[.int .i64 0, .int .i64 0, .int .i64 0, .slice none 0 0, .int .i64 0, .bool false]) ?_ 0 _ rfl; (with_reducible repeat (first | refine blk_drewN ?_ _ | refine blk_drew ?_ | refine blk_alloc ?_ _)); exact BK207.out⟩, ⟨by repeat (first | (with_reducible first | exact HB.out | apply below_alloc | apply pw_below_drewN | apply below_drew1 | refine below_set ?_ GE207.out) | exact HB.out)⟩⟩
              case rest =>
                clear HC6
                try clear c1
                try clear c2
                try clear c2b0
                try clear c2b1
                try clear p2
                try clear q2
                try clear hx2
                try clear c3
                try clear c3b0
                try clear c4
                try clear c4b0
                try clear c5
                try clear c5b0
                try clear c7
                try clear c10
                try clear c12
                try clear c14
                try clear hcz16_0
                try clear hcz16_1
                try clear hcz16_2
                try clear hcz16_3
                try clear hcz16_4
                try clear hcz16_5
                try clear hcz17_0
                try clear hcz17_1
                try clear hcz17_2
                try clear hcz17_3
                try clear hcz17_4
                try clear hcz17_5
                try clear hcz18_0
                try clear hcz18_1
                try clear hcz18_2
                try clear hcz18_3
                try clear hcz18_4
                try clear hcz18_5
                try clear hcz19_0
                try clear hcz19_1
                try clear hcz19_2
                try clear hcz19_3
                try clear hcz19_4
                try clear hcz19_5
                try clear hcz8_0
                try clear hcz8_1
                try clear hcz8_2
                try clear hcz8_3
                try clear hcz8_4
                try clear hcz8_5
                try clear hfz16_0
                try clear hfz16_1
                try clear hfz16_2
                try clear hfz16_3
                try clear hfz16_4
                try clear hfz16_5
                try clear hfz17_0
                try clear hfz17_1
                try clear hfz17_2
                try clear hfz17_3
                try clear hfz17_4
                try clear hfz17_5
                try clear hfz18_0
                try clear hfz18_1
                try clear hfz18_2
                try clear hfz18_3
                try clear hfz18_4
                try clear hfz18_5
                try clear hfz19_0
                try clear hfz19_1
                try clear hfz19_2
                try clear hfz19_3
                try clear hfz19_4
                try clear hfz19_5
                try clear hfz8_0
                try clear hfz8_1
                try clear hfz8_2
                try clear hfz8_3
                try clear hfz8_4
                try clear hfz8_5
                try clear hx206_0
                try clear hx206_1
                try clear hx206_2
                try clear hx206_3
                try clear hx206_4
                try clear hx206_5
                try clear p2
                try clear p206
                try clear q206
                obtain ⟨kq, x37_5, rfl, HA, HJ5, BK207, HB⟩ := hcut
                cases kq with
                | zero => exact absurd HA.out (by simp [impl_CoinsFault.j1])
                | succ kj5 =>
                  have H := HA.out
                  clear HA
                  simp only [impl_CoinsFault.j1] at H
                  by_cases c20 : x37_5 = true
                  · subst c20
                    have H1 : (some 3) = some r := by rw [if_pos rfl] at H; exact H
                    clear H
                    have H := H1
                    clear H1
                    obtain rfl := Option.some.inj H
                    go_wp2
                    go_ret
                    exact ⟨by first | rfl | (simp [errW_none, errW_some] <;> rfl) | (simp [*, errW_none, errW_some] <;> rfl), by repeat (first | (with_reducible first | exact HB.out | apply below_alloc | apply pw_below_drewN | apply below_drew1 | refine below_set ?_ GE207.out) | exact HB.out)⟩
                  · replace c20 := Bool.eq_false_iff.mpr c20
                    subst c20
                    have H1 : ((impl_ProgramFault.f kj5 ((rd_T74 l0 x11_1).f3)).bind fun t212 => (if t212 = 0 then (if x11_1 > 0 then (if 0 ≤ (wrap64 (x11_1 - 1)) then (if (wrap64 (x11_1 - 1)) < (l0.length : Int) then ((impl_coinOrder.f kj5 ((rd_T74 l0 (wrap64 (x11_1 - 1))).f0) ((rd_T74 l0 (wrap64 (x11_1 - 1))).f1) ((rd_T74 l0 (wrap64 (x11_1 - 1))).f2) ((rd_T74 l0 (wrap64 (x11_1 - 1))).f3) ((rd_T74 l0 (wrap64 (x11_1 - 1))).f4) ((rd_T74 l0 (wrap64 (x11_1 - 1))).f5) ((rd_T74 l0 x11_1).f0) ((rd_T74 l0 x11_1).f1) ((rd_T74 l0 x11_1).f2) ((rd_T74 l0 x11_1).f3) ((rd_T74 l0 x11_1).f4) ((rd_T74 l0 x11_1).f5)).bind fun t214 => (if t214 ≥ 0 then (some 1) else (impl_CoinsFault.l0 kj5 l0 l0 (l0.length : Int) (wrap64 (x11_1 + 1))))) else (none)) else (none)) else (impl_CoinsFault.l0 kj5 l0 l0 (l0.length : Int) (wrap64 (x11_1 + 1)))) else (some t212))) = some r := by rw [if_neg (show ¬ (false = true) by decide)] at H; exact H
                    clear H
                    have H := H1
                    clear H1
                    replace H := Option.bind_eq_some_iff.mp H
                    obtain ⟨t212, A210, H⟩ := H
                    replace H : (if t212 = 0 then (if x11_1 > 0 then (if 0 ≤ (wrap64 (x11_1 - 1)) then (if (wrap64 (x11_1 - 1)) < (l0.length : Int) then ((impl_coinOrder.f kj5 ((rd_T74 l0 (wrap64 (x11_1 - 1))).f0) ((rd_T74 l0 (wrap64 (x11_1 - 1))).f1) ((rd_T74 l0 (wrap64 (x11_1 - 1))).f2) ((rd_T74 l0 (wrap64 (x11_1 - 1))).f3) ((rd_T74 l0 (wrap64 (x11_1 - 1))).f4) ((rd_T74 l0 (wrap64 (x11_1 - 1))).f5) ((rd_T74 l0 x11_1).f0) ((rd_T74 l0 x11_1).f1) ((rd_T74 l0 x11_1).f2) ((rd_T74 l0 x11_1).f3) ((rd_T74 l0 x11_1).f4) ((rd_T74 l0 x11_1).f5)).bind fun t214 => (if t214 ≥ 0 then (some 1) else (impl_CoinsFault.l0 kj5 l0 l0 (l0.length : Int) (wrap64 (x11_1 + 1))))) else (none)) else (none)) else (impl_CoinsFault.l0 kj5 l0 l0 (l0.length : Int) (wrap64 (x11_1 + 1)))) else (some t212)) = some r := H
                    have A21 := Aside0.mk A210
                    clear A210
                    by_cases c22 : t212 = 0
                    · rw [if_pos c22] at H
                      have c22b0 : (t212 == 0) = true := beq_iff_eq.mpr c22
                      have c22b1 : (t212 != 0) = false := bne_eq_false_iff_eq.mpr c22
                      clear c22
                      by_cases c23 : x11_1 > 0
                      · rw [if_pos c23] at H
                        have c23b0 : decide (0 < x11_1) = true := decide_eq_true c23
                        clear c23
                        obtain ⟨ji24, hji24⟩ : ∃ j_ : Int, (wrap64 (x11_1 - 1)) = j_ := ⟨_, rfl⟩
                        replace H : (if 0 ≤ (ji24) then (if (ji24) < (l0.length : Int) then ((impl_coinOrder.f kj5 ((rd_T74 l0 (ji24)).f0) ((rd_T74 l0 (ji24)).f1) ((rd_T74 l0 (ji24)).f2) ((rd_T74 l0 (ji24)).f3) ((rd_T74 l0 (ji24)).f4) ((rd_T74 l0 (ji24)).f5) ((rd_T74 l0 x11_1).f0) ((rd_T74 l0 x11_1).f1) ((rd_T74 l0 x11_1).f2) ((rd_T74 l0 x11_1).f3) ((rd_T74 l0 x11_1).f4) ((rd_T74 l0 x11_1).f5)).bind fun t214 => (if t214 ≥ 0 then (some 1) else (impl_CoinsFault.l0 kj5 l0 l0 (l0.length : Int) (wrap64 (x11_1 + 1))))) else (none)) else (none)) = some r := by first | (rw [hji24] at H; exact H) | (simp only [hji24] at H ⊢; exact H)
                        (try rw [hji24] at A21)
                        have hji24w : (IntKind.i64.wrap (x11_1 - 1)) = ji24 := (i64_w _).trans hji24
                        by_cases c25 : 0 ≤ (ji24)
                        · rw [if_pos c25] at H
                          have c25b0 : decide (0 ≤ (ji24)) = true := decide_eq_true c25
                          clear c25
                          by_cases c26 : (ji24) < (l0.length : Int)
                          · rw [if_pos c26] at H
                            have c26b0 : decide ((ji24) < (l0.length : Int)) = true := decide_eq_true c26
                            clear c26
                            replace H := Option.bind_eq_some_iff.mp H
                            obtain ⟨t214, A270, H⟩ := H
                            replace H : (if t214 ≥ 0 then (some 1) else (impl_CoinsFault.l0 kj5 l0 l0 (l0.length : Int) (wrap64 (x11_1 + 1)))) = some r := H
                            have A27 := Aside0.mk A270
                            clear A270
                            by_cases c28 : t214 ≥ 0
                            · rw [if_pos c28] at H
                              have c28b0 : decide (0 ≤ t214) = true := decide_eq_true c28
                              clear c28
                              obtain rfl := Option.some.inj H
                              have hcz29_0 : wc.cell? ⟨gb207, 0, none⟩ = some (.int .i64 ((rd_T74 l0 x11_1).f0)) := (blk_cell BK207.out 0).trans rfl
                              have hcz29_1 : wc.cell? ⟨gb207, 1, none⟩ = some (.int .i64 ((rd_T74 l0 x11_1).f1)) := (blk_cell BK207.out 1).trans rfl
                              have hcz29_2 : wc.cell? ⟨gb207, 2, none⟩ = some (.int .i64 ((rd_T74 l0 x11_1).f2)) := (blk_cell BK207.out 2).trans rfl
                              have hcz29_3 : wc.cell? ⟨gb207, 3, none⟩ = some (.slice A206_3 ((rd_T74 l0 x11_1).f3).length c206_3) := (blk_cell BK207.out 3).trans rfl
                              have hcz29_4 : wc.cell? ⟨gb207, 4, none⟩ = some (.int .i64 ((rd_T74 l0 x11_1).f4)) := (blk_cell BK207.out 4).trans rfl
                              have hcz29_5 : wc.cell? ⟨gb207, 5, none⟩ = some (.bool ((rd_T74 l0 x11_1).f5)) := (blk_cell BK207.out 5).trans rfl
                              have hfz29_0 := blk_frozen BK207.out 0
                              have hfz29_1 := blk_frozen BK207.out 1
                              have hfz29_2 := blk_frozen BK207.out 2
                              have hfz29_3 := blk_frozen BK207.out 3
                              have hfz29_4 := blk_frozen BK207.out 4
                              have hfz29_5 := blk_frozen BK207.out 5
                              try go_wp2_with (first | ((with_reducible refine gate_callee (f := 112) rfl ?_); refine goesL_ (some 40) rfl rfl Try.func112 (by kernel_rfl) rfl #[.slice A206_3 ((rd_T74 l0 x11_1).f3).length c206_3] rfl (by (try simp only [List.map_toArray, List.map_cons, List.map_nil]); first | done | rfl | (simp only [List.length_drop, List.length_take]; rfl)) ?_; (with_reducible refine (impl_ProgramFault.calls kj5 _ _ ((rd_T74 l0 x11_1).f3) t212 _ ?side1 ?side2 A21.out).mono ?_); (case side1 => repeat (first | exact (Kd.C_below HR206_3.out HB.out) | (with_reducible refine Kd.C_alloc ?_ _) | (with_reducible refine Kd.C_drewN ?_ _) | (with_reducible refine Kd.C_drew ?_))); (case side2 => exact HC206_3.out); rintro e w' ⟨rfl, ⟨nd, rfl⟩⟩; refine ⟨_, rfl, ?_⟩))
                              (try (rw [drewN_self wc]; generalize hq_ : World.drewN wc _ = wc; have n0_ : Aside0 (wc.heap[gb207]? = some (.cells #[.int .i64 ((rd_T74 l0 x11_1).f0), .int .i64 ((rd_T74 l0 x11_1).f1), .int .i64 ((rd_T74 l0 x11_1).f2), .slice A206_3 ((rd_T74 l0 x11_1).f3).length c206_3, .int .i64 ((rd_T74 l0 x11_1).f4), .bool ((rd_T74 l0 x11_1).f5)] 74 (0, 0))) := ⟨by rw [← hq_]; exact (by (with_reducible repeat (first | refine blk_drewN ?_ _ | refine blk_drew ?_ | refine blk_alloc ?_ _)); exact BK207.out)⟩; have n1_ : Aside0 (Below w.heap.size w wc) := ⟨by rw [← hq_]; exact (by repeat (first | (with_reducible first | exact HB.out | apply below_alloc | apply pw_below_drewN | apply below_drew1 | refine below_set ?_ GE207.out) | exact HB.out))⟩; clear BK207 HB hq_; have BK207 := n0_; have HB := n1_; clear n0_ n1_))
                              have n0_ := Aside0.mk (blk_drew BK207.out)
                              have n1_ := Aside0.mk (below_drew1 HB.out)
                              clear BK207
                              clear HB
                              have BK207 := n0_
                              have HB := n1_
                              clear n0_ n1_
                              have p213 : 0 ≤ ((ji24) : Int) := of_decide_eq_true (by first | (with_reducible assumption) | assumption)
                              have q213 : (ji24) < (l0.length : Int) := of_decide_eq_true (by first | (with_reducible assumption) | assumption)
                              obtain ⟨ad213, A213_3, c213_3, e213, hx213_0, hx213_1, hx213_2, hx213_3, hx213_4, hx213_5, hl213_3, hi213_3⟩ := at_T74 HR0.out (ji24) p213 q213
                              have hw213_5 := hx213_5
                              have hw213_4 := hx213_4
                              have hw213_3 := hx213_3
                              have hw213_2 := hx213_2
                              have hw213_1 := hx213_1
                              have hw213_0 := hx213_0
                              obtain rfl : ad206 = ad213 := (by injection e213)
                              replace hx213_0 := (HB.out.cell (World.block_lt_of_cell? w _ hx213_0)).trans hx213_0
                              replace hx213_1 := (HB.out.cell (World.block_lt_of_cell? w _ hx213_1)).trans hx213_1
                              replace hx213_2 := (HB.out.cell (World.block_lt_of_cell? w _ hx213_2)).trans hx213_2
                              replace hx213_3 := (HB.out.cell (World.block_lt_of_cell? w _ hx213_3)).trans hx213_3
                              replace hx213_4 := (HB.out.cell (World.block_lt_of_cell? w _ hx213_4)).trans hx213_4
                              replace hx213_5 := (HB.out.cell (World.block_lt_of_cell? w _ hx213_5)).trans hx213_5
                              have HR213_3 := Aside0.mk hi213_3
                              have HC213_3 := Aside0.mk hl213_3
                              clear hi213_3 hl213_3
                              replace p213 := eq_true p213
                              replace q213 := eq_true q213
                              refine start_ (n := 12) (S := fun w' => w'.cell? ⟨gb207, 0, none⟩ = some (.int .i64 ((rd_T74 l0 x11_1).f0)) ∧ w'.cell? ⟨gb207, 1, none⟩ = some (.int .i64 ((rd_T74 l0 x11_1).f1)) ∧ w'.cell? ⟨gb207, 2, none⟩ = some (.int .i64 ((rd_T74 l0 x11_1).f2)) ∧ w'.cell? ⟨gb207, 3, none⟩ = some (.slice A206_3 ((rd_T74 l0 x11_1).f3).length c206_3) ∧ w'.cell? ⟨gb207, 4, none⟩ = some (.int .i64 ((rd_T74 l0 x11_1).f4)) ∧ w'.cell? ⟨gb207, 5, none⟩ = some (.bool ((rd_T74 l0 x11_1).f5)) ∧ w'.cell? (ad206.add (((ji24)).toNat * 6)) = some (.int .i64 ((rd_T74 l0 (ji24)).f0)) ∧ w'.cell? ⟨(ad206.add (((ji24)).toNat * 6)).block, (ad206.add (((ji24)).toNat * 6)).off + 1, none⟩ = some (.int .i64 ((rd_T74 l0 (ji24)).f1)) ∧ w'.cell? ⟨(ad206.add (((ji24)).toNat * 6)).block, (ad206.add (((ji24)).toNat * 6)).off + 2, none⟩ = some (.int .i64 ((rd_T74 l0 (ji24)).f2)) ∧ w'.cell? ⟨(ad206.add (((ji24)).toNat * 6)).block, (ad206.add (((ji24)).toNat * 6)).off + 3, none⟩ = some (.slice A213_3 ((rd_T74 l0 (ji24)).f3).length c213_3) ∧ w'.cell? ⟨(ad206.add (((ji24)).toNat * 6)).block, (ad206.add (((ji24)).toNat * 6)).off + 4, none⟩ = some (.int .i64 ((rd_T74 l0 (ji24)).f4)) ∧ w'.cell? ⟨(ad206.add (((ji24)).toNat * 6)).block, (ad206.add (((ji24)).toNat * 6)).off + 5, none⟩ = some (.bool ((rd_T74 l0 (ji24)).f5))) (ds := []) #[false, false, false, false, false, false, false, false, false, false, false, false] (by kernel_rfl) rfl rfl ⟨(blk_cell BK207.out 0).trans rfl, (blk_cell BK207.out 1).trans rfl, (blk_cell BK207.out 2).trans rfl, (blk_cell BK207.out 3).trans rfl, (blk_cell BK207.out 4).trans rfl, (blk_cell BK207.out 5).trans rfl, ((HB.out.cell (World.block_lt_of_cell? w _ hw213_0)).trans hw213_0), ((HB.out.cell (World.block_lt_of_cell? w _ hw213_1)).trans hw213_1), ((HB.out.cell (World.block_lt_of_cell? w _ hw213_2)).trans hw213_2), ((HB.out.cell (World.block_lt_of_cell? w _ hw213_3)).trans hw213_3), ((HB.out.cell (World.block_lt_of_cell? w _ hw213_4)).trans hw213_4), ((HB.out.cell (World.block_lt_of_cell? w _ hw213_5)).trans hw213_5)⟩ (fun hHeld => ?_); refine with_tabW impl_CoinsFault.tab11 impl_CoinsFault.bits11 (fun HT_ HW_ => ?_)
                              generalize wc.drew = w30 at BK207 HB HR213_3 hx213_0 hx213_1 hx213_2 hx213_3 hx213_4 hx213_5 hHeld ⊢
                              refine pure_ (i := 0) (N := some 44) (v := ?_) (a' := ?_) #[true, false, false, false, false, false, false, false, false, false, false, false] rfl rfl (any_of HT_.out (by kernel_rfl)) (fun _ _ _ h => h) (Or.inl ⟨by rfl, ?_⟩) ?_ ?_
                              rotate_left
                              · intro w'
                                go_simp
                                with_reducible rfl
                              rotate_left
                              · simp only [Act.put, List.setIfInBounds_toArray, List.set_cons_zero, List.set_cons_succ, i64_w, i32_w]
                                rfl
                              refine pure_ (i := 1) (N := some 45) (v := ?_) (a' := ?_) #[true, true, false, false, false, false, false, false, false, false, false, false] rfl rfl (any_of HT_.out (by kernel_rfl)) (fun _ _ _ h => h) (Or.inl ⟨by rfl, ?_⟩) ?_ ?_
                              rotate_left
                              · intro w'
                                go_simp
                                with_reducible rfl
                              rotate_left
                              · simp only [Act.put, List.setIfInBounds_toArray, List.set_cons_zero, List.set_cons_succ, i64_w, i32_w]
                                rfl
                              refine pure_ (i := 2) (N := some 46) (v := ?_) (a' := ?_) #[true, true, true, false, false, false, false, false, false, false, false, false] rfl rfl (any_of HT_.out (by kernel_rfl)) (fun _ _ _ h => h) (Or.inl ⟨by rfl, ?_⟩) ?_ ?_
                              rotate_left
                              · intro w'
                                go_simp
                                with_reducible rfl
                              rotate_left
                              · simp only [Act.put, List.setIfInBounds_toArray, List.set_cons_zero, List.set_cons_succ, i64_w, i32_w]
                                rfl
                              refine pure_ (i := 3) (N := some 47) (v := ?_) (a' := ?_) #[true, true, true, true, false, false, false, false, false, false, false, false] rfl rfl (any_of HT_.out (by kernel_rfl)) (fun _ _ _ h => h) (Or.inl ⟨by rfl, ?_⟩) ?_ ?_
                              rotate_left
                              · intro w'
                                go_simp
                                with_reducible rfl
                              rotate_left
                              · simp only [Act.put, List.setIfInBounds_toArray, List.set_cons_zero, List.set_cons_succ, i64_w, i32_w]
                                rfl
                              refine pure_ (i := 4) (N := some 48) (v := ?_) (a' := ?_) #[true, true, true, true, true, false, false, false, false, false, false, false] rfl rfl (any_of HT_.out (by kernel_rfl)) (fun _ _ _ h => h) (Or.inl ⟨by rfl, ?_⟩) ?_ ?_
                              rotate_left
                              · intro w'
                                go_simp
                                with_reducible rfl
                              rotate_left
                              · simp only [Act.put, List.setIfInBounds_toArray, List.set_cons_zero, List.set_cons_succ, i64_w, i32_w]
                                rfl
                              refine pure_ (i := 5) (N := some 49) (v := ?_) (a' := ?_) #[true, true, true, true, true, true, false, false, false, false, false, false] rfl rfl (any_of HT_.out (by kernel_rfl)) (fun _ _ _ h => h) (Or.inl ⟨by rfl, ?_⟩) ?_ ?_
                              rotate_left
                              · intro w'
                                go_simp
                                with_reducible rfl
                              rotate_left
                              · simp only [Act.put, List.setIfInBounds_toArray, List.set_cons_zero, List.set_cons_succ, i64_w, i32_w]
                                rfl
                              refine pure_ (i := 6) (N := some 50) (v := ?_) (a' := ?_) #[true, true, true, true, true, true, true, false, false, false, false, false] rfl rfl (any_of HT_.out (by kernel_rfl)) (fun _ _ _ h => h) (Or.inl ⟨by rfl, ?_⟩) ?_ ?_
                              rotate_left
                              · intro w'
                                go_simp
                                with_reducible rfl
                              rotate_left
                              · simp only [Act.put, List.setIfInBounds_toArray, List.set_cons_zero, List.set_cons_succ, i64_w, i32_w]
                                rfl
                              refine take_ (i := 7) (N := some 51) (v := ?_) (a' := ?_) #[true, true, true, true, true, true, true, true, false, false, false, false] rfl rfl (take_ofW HT_.out HW_.out (by kernel_rfl)) (fun _ _ _ h => h) (Or.inl ⟨by rfl, ?_⟩) hHeld ?_ ?_
                              rotate_left
                              · rintro w' ⟨s0, s1, s2, s3, s4, s5, s6, s7, s8, s9, s10, s11⟩
                                go_simp
                                with_reducible rfl
                              rotate_left
                              · simp only [Act.put, List.setIfInBounds_toArray, List.set_cons_zero, List.set_cons_succ, i64_w, i32_w]
                                rfl
                              refine take_ (i := 8) (N := some 52) (v := ?_) (a' := ?_) #[true, true, true, true, true, true, true, true, true, false, false, false] rfl rfl (take_ofW HT_.out HW_.out (by kernel_rfl)) (fun _ _ _ h => h) (Or.inl ⟨by rfl, ?_⟩) hHeld ?_ ?_
                              rotate_left
                              · rintro w' ⟨s0, s1, s2, s3, s4, s5, s6, s7, s8, s9, s10, s11⟩
                                go_simp
                                with_reducible rfl
                              rotate_left
                              · simp only [Act.put, List.setIfInBounds_toArray, List.set_cons_zero, List.set_cons_succ, i64_w, i32_w]
                                rfl
                              refine one_ (i := 9) (N := some 53) #[true, true, true, true, true, true, true, true, true, true, false, false] rfl rfl (one_of HT_.out (by kernel_rfl)) (by decide) (fun K hK => ?_)
                              refine goes_ Try.func113 (by kernel_rfl) rfl #[.agg #[.int .i64 ((rd_T74 l0 (ji24)).f0), .int .i64 ((rd_T74 l0 (ji24)).f1), .int .i64 ((rd_T74 l0 (ji24)).f2), .slice A213_3 ((rd_T74 l0 (ji24)).f3).length c213_3, .int .i64 ((rd_T74 l0 (ji24)).f4), .bool ((rd_T74 l0 (ji24)).f5)], .agg #[.int .i64 ((rd_T74 l0 x11_1).f0), .int .i64 ((rd_T74 l0 x11_1).f1), .int .i64 ((rd_T74 l0 x11_1).f2), .slice A206_3 ((rd_T74 l0 x11_1).f3).length c206_3, .int .i64 ((rd_T74 l0 x11_1).f4), .bool ((rd_T74 l0 x11_1).f5)]] (by rfl) rfl rfl (by (try simp only [List.map_toArray, List.map_cons, List.map_nil]); first | done | (simp only [hji24]; rfl) | rfl | (simp only [List.length_drop, List.length_take]; rfl)) ?_
                              with_reducible refine (impl_coinOrder.calls kj5 ((rd_T74 l0 (ji24)).f0) ((rd_T74 l0 (ji24)).f1) ((rd_T74 l0 (ji24)).f2) _ _ ((rd_T74 l0 (ji24)).f3) ((rd_T74 l0 (ji24)).f4) ((rd_T74 l0 (ji24)).f5) ((rd_T74 l0 x11_1).f0) ((rd_T74 l0 x11_1).f1) ((rd_T74 l0 x11_1).f2) _ _ ((rd_T74 l0 x11_1).f3) ((rd_T74 l0 x11_1).f4) ((rd_T74 l0 x11_1).f5) t214 _ ?side1 ?side2 ?side3 ?side4 A27.out).mono ?_
                              (case side1 => repeat (first | exact (Kd.C_below HR213_3.out HB.out) | (with_reducible refine Kd.C_alloc ?_ _) | (with_reducible refine Kd.C_drewN ?_ _) | (with_reducible refine Kd.C_drew ?_)))
                              (case side2 => exact HC213_3.out)
                              (case side3 => repeat (first | exact (Kd.C_below HR206_3.out HB.out) | (with_reducible refine Kd.C_alloc ?_ _) | (with_reducible refine Kd.C_drewN ?_ _) | (with_reducible refine Kd.C_drew ?_)))
                              (case side4 => exact HC206_3.out)
                              rintro e w31 ⟨rfl, hb⟩
                              refine ⟨_, rfl, ?_⟩
                              have n0_ := Aside0.mk (blk_below (g := gb207) (o := .cells #[.int .i64 ((rd_T74 l0 x11_1).f0), .int .i64 ((rd_T74 l0 x11_1).f1), .int .i64 ((rd_T74 l0 x11_1).f2), .slice A206_3 ((rd_T74 l0 x11_1).f3).length c206_3, .int .i64 ((rd_T74 l0 x11_1).f4), .bool ((rd_T74 l0 x11_1).f5)] 74 (0, 0)) (by (with_reducible repeat (first | refine blk_drewN ?_ _ | refine blk_drew ?_ | refine blk_alloc ?_ _)); exact BK207.out) hb)
                              have n1_ := Aside0.mk (below_step (by repeat (first | (with_reducible first | exact HB.out | apply below_alloc | apply pw_below_drewN | apply below_drew1 | refine below_set ?_ GE207.out) | exact HB.out)) hb)
                              clear BK207
                              clear HB
                              have BK207 := n0_
                              have HB := n1_
                              clear n0_ n1_
                              (try clear hb)
                              (try clear hb2)
                              (try clear hk)
                              (try clear hi)
                              refine hK.out _ _ ⟨(blk_cell BK207.out 0).trans rfl, (blk_cell BK207.out 1).trans rfl, (blk_cell BK207.out 2).trans rfl, (blk_cell BK207.out 3).trans rfl, (blk_cell BK207.out 4).trans rfl, (blk_cell BK207.out 5).trans rfl, ((HB.out.cell (World.block_lt_of_cell? w _ hw213_0)).trans hw213_0), ((HB.out.cell (World.block_lt_of_cell? w _ hw213_1)).trans hw213_1), ((HB.out.cell (World.block_lt_of_cell? w _ hw213_2)).trans hw213_2), ((HB.out.cell (World.block_lt_of_cell? w _ hw213_3)).trans hw213_3), ((HB.out.cell (World.block_lt_of_cell? w _ hw213_4)).trans hw213_4), ((HB.out.cell (World.block_lt_of_cell? w _ hw213_5)).trans hw213_5)⟩ (fun hHeld => ?_)
                              clear hK K
                              refine norm_ (a' := ?_) ?_ ?_
                              rotate_left
                              · show Act.put _ (some 53) _ = _
                                simp only [Act.put, List.setIfInBounds_toArray, List.set_cons_zero, List.set_cons_succ, i64_w, i32_w]
                                rfl
                              refine pure_ (i := 10) (N := some 54) (v := ?_) (a' := ?_) #[true, true, true, true, true, true, true, true, true, true, true, false] rfl rfl (any_of HT_.out (by kernel_rfl)) (fun _ _ _ h => h) (Or.inl ⟨by rfl, ?_⟩) ?_ ?_
                              rotate_left
                              · intro w'
                                go_simp
                                with_reducible rfl
                              rotate_left
                              · simp only [Act.put, List.setIfInBounds_toArray, List.set_cons_zero, List.set_cons_succ, i64_w, i32_w]
                                rfl
                              refine pure_ (i := 11) (N := some 55) (v := ?_) (a' := ?_) #[true, true, true, true, true, true, true, true, true, true, true, true] rfl rfl (any_of HT_.out (by kernel_rfl)) (fun _ _ _ h => h) (Or.inl ⟨by rfl, ?_⟩) ?_ ?_
                              rotate_left
                              · intro w'
                                go_simp
                                with_reducible rfl
                              rotate_left
                              · simp only [Act.put, List.setIfInBounds_toArray, List.set_cons_zero, List.set_cons_succ, i64_w, i32_w]
                                rfl
                              refine done_ (done_of HT_.out (by kernel_rfl)) ?_
                              try go_wp2
                              go_ret
                              exact ⟨by first | rfl | (simp [errW_none, errW_some] <;> rfl) | (simp only [← hji24]; first | rfl | (simp [errW_none, errW_some] <;> rfl)) | (simp [*, errW_none, errW_some] <;> rfl), by repeat (first | (with_reducible first | exact HB.out | apply below_alloc | apply pw_below_drewN | apply below_drew1 | refine below_set ?_ GE207.out) | exact HB.out)⟩
                            · rw [if_neg c28] at H
                              have c28b0 : decide (0 ≤ t214) = false := decide_eq_false c28
                              clear c28
                              have H' := Aside0.mk H
                              clear H
                              have hcz32_0 : wc.cell? ⟨gb207, 0, none⟩ = some (.int .i64 ((rd_T74 l0 x11_1).f0)) := (blk_cell BK207.out 0).trans rfl
                              have hcz32_1 : wc.cell? ⟨gb207, 1, none⟩ = some (.int .i64 ((rd_T74 l0 x11_1).f1)) := (blk_cell BK207.out 1).trans rfl
                              have hcz32_2 : wc.cell? ⟨gb207, 2, none⟩ = some (.int .i64 ((rd_T74 l0 x11_1).f2)) := (blk_cell BK207.out 2).trans rfl
                              have hcz32_3 : wc.cell? ⟨gb207, 3, none⟩ = some (.slice A206_3 ((rd_T74 l0 x11_1).f3).length c206_3) := (blk_cell BK207.out 3).trans rfl
                              have hcz32_4 : wc.cell? ⟨gb207, 4, none⟩ = some (.int .i64 ((rd_T74 l0 x11_1).f4)) := (blk_cell BK207.out 4).trans rfl
                              have hcz32_5 : wc.cell? ⟨gb207, 5, none⟩ = some (.bool ((rd_T74 l0 x11_1).f5)) := (blk_cell BK207.out 5).trans rfl
                              have hfz32_0 := blk_frozen BK207.out 0
                              have hfz32_1 := blk_frozen BK207.out 1
                              have hfz32_2 := blk_frozen BK207.out 2
                              have hfz32_3 := blk_frozen BK207.out 3
                              have hfz32_4 := blk_frozen BK207.out 4
                              have hfz32_5 := blk_frozen BK207.out 5
                              try go_wp2_with (first | ((with_reducible refine gate_callee (f := 112) rfl ?_); refine goesL_ (some 40) rfl rfl Try.func112 (by kernel_rfl) rfl #[.slice A206_3 ((rd_T74 l0 x11_1).f3).length c206_3] rfl (by (try simp only [List.map_toArray, List.map_cons, List.map_nil]); first | done | rfl | (simp only [List.length_drop, List.length_take]; rfl)) ?_; (with_reducible refine (impl_ProgramFault.calls kj5 _ _ ((rd_T74 l0 x11_1).f3) t212 _ ?side1 ?side2 A21.out).mono ?_); (case side1 => repeat (first | exact (Kd.C_below HR206_3.out HB.out) | (with_reducible refine Kd.C_alloc ?_ _) | (with_reducible refine Kd.C_drewN ?_ _) | (with_reducible refine Kd.C_drew ?_))); (case side2 => exact HC206_3.out); rintro e w' ⟨rfl, ⟨nd, rfl⟩⟩; refine ⟨_, rfl, ?_⟩))
                              (try (rw [drewN_self wc]; generalize hq_ : World.drewN wc _ = wc; have n0_ : Aside0 (wc.heap[gb207]? = some (.cells #[.int .i64 ((rd_T74 l0 x11_1).f0), .int .i64 ((rd_T74 l0 x11_1).f1), .int .i64 ((rd_T74 l0 x11_1).f2), .slice A206_3 ((rd_T74 l0 x11_1).f3).length c206_3, .int .i64 ((rd_T74 l0 x11_1).f4), .bool ((rd_T74 l0 x11_1).f5)] 74 (0, 0))) := ⟨by rw [← hq_]; exact (by (with_reducible repeat (first | refine blk_drewN ?_ _ | refine blk_drew ?_ | refine blk_alloc ?_ _)); exact BK207.out)⟩; have n1_ : Aside0 (Below w.heap.size w wc) := ⟨by rw [← hq_]; exact (by repeat (first | (with_reducible first | exact HB.out | apply below_alloc | apply pw_below_drewN | apply below_drew1 | refine below_set ?_ GE207.out) | exact HB.out))⟩; clear BK207 HB hq_; have BK207 := n0_; have HB := n1_; clear n0_ n1_))
                              have n0_ := Aside0.mk (blk_drew BK207.out)
                              have n1_ := Aside0.mk (below_drew1 HB.out)
                              clear BK207
                              clear HB
                              have BK207 := n0_
                              have HB := n1_
                              clear n0_ n1_
                              have p213 : 0 ≤ ((ji24) : Int) := of_decide_eq_true (by first | (with_reducible assumption) | assumption)
                              have q213 : (ji24) < (l0.length : Int) := of_decide_eq_true (by first | (with_reducible assumption) | assumption)
                              obtain ⟨ad213, A213_3, c213_3, e213, hx213_0, hx213_1, hx213_2, hx213_3, hx213_4, hx213_5, hl213_3, hi213_3⟩ := at_T74 HR0.out (ji24) p213 q213
                              have hw213_5 := hx213_5
                              have hw213_4 := hx213_4
                              have hw213_3 := hx213_3
                              have hw213_2 := hx213_2
                              have hw213_1 := hx213_1
                              have hw213_0 := hx213_0
                              obtain rfl : ad206 = ad213 := (by injection e213)
                              replace hx213_0 := (HB.out.cell (World.block_lt_of_cell? w _ hx213_0)).trans hx213_0
                              replace hx213_1 := (HB.out.cell (World.block_lt_of_cell? w _ hx213_1)).trans hx213_1
                              replace hx213_2 := (HB.out.cell (World.block_lt_of_cell? w _ hx213_2)).trans hx213_2
                              replace hx213_3 := (HB.out.cell (World.block_lt_of_cell? w _ hx213_3)).trans hx213_3
                              replace hx213_4 := (HB.out.cell (World.block_lt_of_cell? w _ hx213_4)).trans hx213_4
                              replace hx213_5 := (HB.out.cell (World.block_lt_of_cell? w _ hx213_5)).trans hx213_5
                              have HR213_3 := Aside0.mk hi213_3
                              have HC213_3 := Aside0.mk hl213_3
                              clear hi213_3 hl213_3
                              replace p213 := eq_true p213
                              replace q213 := eq_true q213
                              refine start_ (n := 12) (S := fun w' => w'.cell? ⟨gb207, 0, none⟩ = some (.int .i64 ((rd_T74 l0 x11_1).f0)) ∧ w'.cell? ⟨gb207, 1, none⟩ = some (.int .i64 ((rd_T74 l0 x11_1).f1)) ∧ w'.cell? ⟨gb207, 2, none⟩ = some (.int .i64 ((rd_T74 l0 x11_1).f2)) ∧ w'.cell? ⟨gb207, 3, none⟩ = some (.slice A206_3 ((rd_T74 l0 x11_1).f3).length c206_3) ∧ w'.cell? ⟨gb207, 4, none⟩ = some (.int .i64 ((rd_T74 l0 x11_1).f4)) ∧ w'.cell? ⟨gb207, 5, none⟩ = some (.bool ((rd_T74 l0 x11_1).f5)) ∧ w'.cell? (ad206.add (((ji24)).toNat * 6)) = some (.int .i64 ((rd_T74 l0 (ji24)).f0)) ∧ w'.cell? ⟨(ad206.add (((ji24)).toNat * 6)).block, (ad206.add (((ji24)).toNat * 6)).off + 1, none⟩ = some (.int .i64 ((rd_T74 l0 (ji24)).f1)) ∧ w'.cell? ⟨(ad206.add (((ji24)).toNat * 6)).block, (ad206.add (((ji24)).toNat * 6)).off + 2, none⟩ = some (.int .i64 ((rd_T74 l0 (ji24)).f2)) ∧ w'.cell? ⟨(ad206.add (((ji24)).toNat * 6)).block, (ad206.add (((ji24)).toNat * 6)).off + 3, none⟩ = some (.slice A213_3 ((rd_T74 l0 (ji24)).f3).length c213_3) ∧ w'.cell? ⟨(ad206.add (((ji24)).toNat * 6)).block, (ad206.add (((ji24)).toNat * 6)).off + 4, none⟩ = some (.int .i64 ((rd_T74 l0 (ji24)).f4)) ∧ w'.cell? ⟨(ad206.add (((ji24)).toNat * 6)).block, (ad206.add (((ji24)).toNat * 6)).off + 5, none⟩ = some (.bool ((rd_T74 l0 (ji24)).f5))) (ds := []) #[false, false, false, false, false, false, false, false, false, false, false, false] (by kernel_rfl) rfl rfl ⟨(blk_cell BK207.out 0).trans rfl, (blk_cell BK207.out 1).trans rfl, (blk_cell BK207.out 2).trans rfl, (blk_cell BK207.out 3).trans rfl, (blk_cell BK207.out 4).trans rfl, (blk_cell BK207.out 5).trans rfl, ((HB.out.cell (World.block_lt_of_cell? w _ hw213_0)).trans hw213_0), ((HB.out.cell (World.block_lt_of_cell? w _ hw213_1)).trans hw213_1), ((HB.out.cell (World.block_lt_of_cell? w _ hw213_2)).trans hw213_2), ((HB.out.cell (World.block_lt_of_cell? w _ hw213_3)).trans hw213_3), ((HB.out.cell (World.block_lt_of_cell? w _ hw213_4)).trans hw213_4), ((HB.out.cell (World.block_lt_of_cell? w _ hw213_5)).trans hw213_5)⟩ (fun hHeld => ?_); refine with_tabW impl_CoinsFault.tab11 impl_CoinsFault.bits11 (fun HT_ HW_ => ?_)
                              generalize wc.drew = w33 at BK207 HB HR213_3 hx213_0 hx213_1 hx213_2 hx213_3 hx213_4 hx213_5 hHeld ⊢
                              refine pure_ (i := 0) (N := some 44) (v := ?_) (a' := ?_) #[true, false, false, false, false, false, false, false, false, false, false, false] rfl rfl (any_of HT_.out (by kernel_rfl)) (fun _ _ _ h => h) (Or.inl ⟨by rfl, ?_⟩) ?_ ?_
                              rotate_left
                              · intro w'
                                go_simp
                                with_reducible rfl
                              rotate_left
                              · simp only [Act.put, List.setIfInBounds_toArray, List.set_cons_zero, List.set_cons_succ, i64_w, i32_w]
                                rfl
                              refine pure_ (i := 1) (N := some 45) (v := ?_) (a' := ?_) #[true, true, false, false, false, false, false, false, false, false, false, false] rfl rfl (any_of HT_.out (by kernel_rfl)) (fun _ _ _ h => h) (Or.inl ⟨by rfl, ?_⟩) ?_ ?_
                              rotate_left
                              · intro w'
                                go_simp
                                with_reducible rfl
                              rotate_left
                              · simp only [Act.put, List.setIfInBounds_toArray, List.set_cons_zero, List.set_cons_succ, i64_w, i32_w]
                                rfl
                              refine pure_ (i := 2) (N := some 46) (v := ?_) (a' := ?_) #[true, true, true, false, false, false, false, false, false, false, false, false] rfl rfl (any_of HT_.out (by kernel_rfl)) (fun _ _ _ h => h) (Or.inl ⟨by rfl, ?_⟩) ?_ ?_
                              rotate_left
                              · intro w'
                                go_simp
                                with_reducible rfl
                              rotate_left
                              · simp only [Act.put, List.setIfInBounds_toArray, List.set_cons_zero, List.set_cons_succ, i64_w, i32_w]
                                rfl
                              refine pure_ (i := 3) (N := some 47) (v := ?_) (a' := ?_) #[true, true, true, true, false, false, false, false, false, false, false, false] rfl rfl (any_of HT_.out (by kernel_rfl)) (fun _ _ _ h => h) (Or.inl ⟨by rfl, ?_⟩) ?_ ?_
                              rotate_left
                              · intro w'
                                go_simp
                                with_reducible rfl
                              rotate_left
                              · simp only [Act.put, List.setIfInBounds_toArray, List.set_cons_zero, List.set_cons_succ, i64_w, i32_w]
                                rfl
                              refine pure_ (i := 4) (N := some 48) (v := ?_) (a' := ?_) #[true, true, true, true, true, false, false, false, false, false, false, false] rfl rfl (any_of HT_.out (by kernel_rfl)) (fun _ _ _ h => h) (Or.inl ⟨by rfl, ?_⟩) ?_ ?_
                              rotate_left
                              · intro w'
                                go_simp
                                with_reducible rfl
                              rotate_left
                              · simp only [Act.put, List.setIfInBounds_toArray, List.set_cons_zero, List.set_cons_succ, i64_w, i32_w]
                                rfl
                              refine pure_ (i := 5) (N := some 49) (v := ?_) (a' := ?_) #[true, true, true, true, true, true, false, false, false, false, false, false] rfl rfl (any_of HT_.out (by kernel_rfl)) (fun _ _ _ h => h) (Or.inl ⟨by rfl, ?_⟩) ?_ ?_
                              rotate_left
                              · intro w'
                                go_simp
                                with_reducible rfl
                              rotate_left
                              · simp only [Act.put, List.setIfInBounds_toArray, List.set_cons_zero, List.set_cons_succ, i64_w, i32_w]
                                rfl
                              refine pure_ (i := 6) (N := some 50) (v := ?_) (a' := ?_) #[true, true, true, true, true, true, true, false, false, false, false, false] rfl rfl (any_of HT_.out (by kernel_rfl)) (fun _ _ _ h => h) (Or.inl ⟨by rfl, ?_⟩) ?_ ?_
                              rotate_left
                              · intro w'
                                go_simp
                                with_reducible rfl
                              rotate_left
                              · simp only [Act.put, List.setIfInBounds_toArray, List.set_cons_zero, List.set_cons_succ, i64_w, i32_w]
                                rfl
                              refine take_ (i := 7) (N := some 51) (v := ?_) (a' := ?_) #[true, true, true, true, true, true, true, true, false, false, false, false] rfl rfl (take_ofW HT_.out HW_.out (by kernel_rfl)) (fun _ _ _ h => h) (Or.inl ⟨by rfl, ?_⟩) hHeld ?_ ?_
                              rotate_left
                              · rintro w' ⟨s0, s1, s2, s3, s4, s5, s6, s7, s8, s9, s10, s11⟩
                                go_simp
                                with_reducible rfl
                              rotate_left
                              · simp only [Act.put, List.setIfInBounds_toArray, List.set_cons_zero, List.set_cons_succ, i64_w, i32_w]
                                rfl
                              refine take_ (i := 8) (N := some 52) (v := ?_) (a' := ?_) #[true, true, true, true, true, true, true, true, true, false, false, false] rfl rfl (take_ofW HT_.out HW_.out (by kernel_rfl)) (fun _ _ _ h => h) (Or.inl ⟨by rfl, ?_⟩) hHeld ?_ ?_
                              rotate_left
                              · rintro w' ⟨s0, s1, s2, s3, s4, s5, s6, s7, s8, s9, s10, s11⟩
                                go_simp
                                with_reducible rfl
                              rotate_left
                              · simp only [Act.put, List.setIfInBounds_toArray, List.set_cons_zero, List.set_cons_succ, i64_w, i32_w]
                                rfl
                              refine one_ (i := 9) (N := some 53) #[true, true, true, true, true, true, true, true, true, true, false, false] rfl rfl (one_of HT_.out (by kernel_rfl)) (by decide) (fun K hK => ?_)
                              refine goes_ Try.func113 (by kernel_rfl) rfl #[.agg #[.int .i64 ((rd_T74 l0 (ji24)).f0), .int .i64 ((rd_T74 l0 (ji24)).f1), .int .i64 ((rd_T74 l0 (ji24)).f2), .slice A213_3 ((rd_T74 l0 (ji24)).f3).length c213_3, .int .i64 ((rd_T74 l0 (ji24)).f4), .bool ((rd_T74 l0 (ji24)).f5)], .agg #[.int .i64 ((rd_T74 l0 x11_1).f0), .int .i64 ((rd_T74 l0 x11_1).f1), .int .i64 ((rd_T74 l0 x11_1).f2), .slice A206_3 ((rd_T74 l0 x11_1).f3).length c206_3, .int .i64 ((rd_T74 l0 x11_1).f4), .bool ((rd_T74 l0 x11_1).f5)]] (by rfl) rfl rfl (by (try simp only [List.map_toArray, List.map_cons, List.map_nil]); first | done | (simp only [hji24]; rfl) | rfl | (simp only [List.length_drop, List.length_take]; rfl)) ?_
                              with_reducible refine (impl_coinOrder.calls kj5 ((rd_T74 l0 (ji24)).f0) ((rd_T74 l0 (ji24)).f1) ((rd_T74 l0 (ji24)).f2) _ _ ((rd_T74 l0 (ji24)).f3) ((rd_T74 l0 (ji24)).f4) ((rd_T74 l0 (ji24)).f5) ((rd_T74 l0 x11_1).f0) ((rd_T74 l0 x11_1).f1) ((rd_T74 l0 x11_1).f2) _ _ ((rd_T74 l0 x11_1).f3) ((rd_T74 l0 x11_1).f4) ((rd_T74 l0 x11_1).f5) t214 _ ?side1 ?side2 ?side3 ?side4 A27.out).mono ?_
                              (case side1 => repeat (first | exact (Kd.C_below HR213_3.out HB.out) | (with_reducible refine Kd.C_alloc ?_ _) | (with_reducible refine Kd.C_drewN ?_ _) | (with_reducible refine Kd.C_drew ?_)))
                              (case side2 => exact HC213_3.out)
                              (case side3 => repeat (first | exact (Kd.C_below HR206_3.out HB.out) | (with_reducible refine Kd.C_alloc ?_ _) | (with_reducible refine Kd.C_drewN ?_ _) | (with_reducible refine Kd.C_drew ?_)))
                              (case side4 => exact HC206_3.out)
                              rintro e w34 ⟨rfl, hb⟩
                              refine ⟨_, rfl, ?_⟩
                              have n0_ := Aside0.mk (blk_below (g := gb207) (o := .cells #[.int .i64 ((rd_T74 l0 x11_1).f0), .int .i64 ((rd_T74 l0 x11_1).f1), .int .i64 ((rd_T74 l0 x11_1).f2), .slice A206_3 ((rd_T74 l0 x11_1).f3).length c206_3, .int .i64 ((rd_T74 l0 x11_1).f4), .bool ((rd_T74 l0 x11_1).f5)] 74 (0, 0)) (by (with_reducible repeat (first | refine blk_drewN ?_ _ | refine blk_drew ?_ | refine blk_alloc ?_ _)); exact BK207.out) hb)
                              have n1_ := Aside0.mk (below_step (by repeat (first | (with_reducible first | exact HB.out | apply below_alloc | apply pw_below_drewN | apply below_drew1 | refine below_set ?_ GE207.out) | exact HB.out)) hb)
                              clear BK207
                              clear HB
                              have BK207 := n0_
                              have HB := n1_
                              clear n0_ n1_
                              (try clear hb)
                              (try clear hb2)
                              (try clear hk)
                              (try clear hi)
                              refine hK.out _ _ ⟨(blk_cell BK207.out 0).trans rfl, (blk_cell BK207.out 1).trans rfl, (blk_cell BK207.out 2).trans rfl, (blk_cell BK207.out 3).trans rfl, (blk_cell BK207.out 4).trans rfl, (blk_cell BK207.out 5).trans rfl, ((HB.out.cell (World.block_lt_of_cell? w _ hw213_0)).trans hw213_0), ((HB.out.cell (World.block_lt_of_cell? w _ hw213_1)).trans hw213_1), ((HB.out.cell (World.block_lt_of_cell? w _ hw213_2)).trans hw213_2), ((HB.out.cell (World.block_lt_of_cell? w _ hw213_3)).trans hw213_3), ((HB.out.cell (World.block_lt_of_cell? w _ hw213_4)).trans hw213_4), ((HB.out.cell (World.block_lt_of_cell? w _ hw213_5)).trans hw213_5)⟩ (fun hHeld => ?_)
                              clear hK K
                              refine norm_ (a' := ?_) ?_ ?_
                              rotate_left
                              · show Act.put _ (some 53) _ = _
                                simp only [Act.put, List.setIfInBounds_toArray, List.set_cons_zero, List.set_cons_succ, i64_w, i32_w]
                                rfl
                              refine pure_ (i := 10) (N := some 54) (v := ?_) (a' := ?_) #[true, true, true, true, true, true, true, true, true, true, true, false] rfl rfl (any_of HT_.out (by kernel_rfl)) (fun _ _ _ h => h) (Or.inl ⟨by rfl, ?_⟩) ?_ ?_
                              rotate_left
                              · intro w'
                                go_simp
                                with_reducible rfl
                              rotate_left
                              · simp only [Act.put, List.setIfInBounds_toArray, List.set_cons_zero, List.set_cons_succ, i64_w, i32_w]
                                rfl
                              refine pure_ (i := 11) (N := some 55) (v := ?_) (a' := ?_) #[true, true, true, true, true, true, true, true, true, true, true, true] rfl rfl (any_of HT_.out (by kernel_rfl)) (fun _ _ _ h => h) (Or.inl ⟨by rfl, ?_⟩) ?_ ?_
                              rotate_left
                              · intro w'
                                go_simp
                                with_reducible rfl
                              rotate_left
                              · simp only [Act.put, List.setIfInBounds_toArray, List.set_cons_zero, List.set_cons_succ, i64_w, i32_w]
                                rfl
                              refine done_ (done_of HT_.out (by kernel_rfl)) ?_
                              try go_wp2
                              go_roundg kj5
                              case measure => have := HK1.out; have := HJ5.out; omega
                              case rel => exact ⟨(wrap64 (x11_1 + 1)), (by first | rfl | (simp; done) | (simp [*]; done)), H', ⟨by have := HK1.out; have := HJ5.out; omega⟩, ⟨by repeat (first | (with_reducible first | exact HB.out | apply below_alloc | apply pw_below_drewN | apply below_drew1 | refine below_set ?_ GE207.out) | exact HB.out)⟩⟩
                          · rw [if_neg c26] at H
                            exact absurd H (by simp)
                        · rw [if_neg c25] at H
                          exact absurd H (by simp)
                      · rw [if_neg c23] at H
                        have c23b0 : decide (0 < x11_1) = false := decide_eq_false c23
                        clear c23
                        have H' := Aside0.mk H
                        clear H
                        have hcz35_0 : wc.cell? ⟨gb207, 0, none⟩ = some (.int .i64 ((rd_T74 l0 x11_1).f0)) := (blk_cell BK207.out 0).trans rfl
                        have hcz35_1 : wc.cell? ⟨gb207, 1, none⟩ = some (.int .i64 ((rd_T74 l0 x11_1).f1)) := (blk_cell BK207.out 1).trans rfl
                        have hcz35_2 : wc.cell? ⟨gb207, 2, none⟩ = some (.int .i64 ((rd_T74 l0 x11_1).f2)) := (blk_cell BK207.out 2).trans rfl
                        have hcz35_3 : wc.cell? ⟨gb207, 3, none⟩ = some (.slice A206_3 ((rd_T74 l0 x11_1).f3).length c206_3) := (blk_cell BK207.out 3).trans rfl
                        have hcz35_4 : wc.cell? ⟨gb207, 4, none⟩ = some (.int .i64 ((rd_T74 l0 x11_1).f4)) := (blk_cell BK207.out 4).trans rfl
                        have hcz35_5 : wc.cell? ⟨gb207, 5, none⟩ = some (.bool ((rd_T74 l0 x11_1).f5)) := (blk_cell BK207.out 5).trans rfl
                        have hfz35_0 := blk_frozen BK207.out 0
                        have hfz35_1 := blk_frozen BK207.out 1
                        have hfz35_2 := blk_frozen BK207.out 2
                        have hfz35_3 := blk_frozen BK207.out 3
                        have hfz35_4 := blk_frozen BK207.out 4
                        have hfz35_5 := blk_frozen BK207.out 5
                        try go_wp2_with (first | ((with_reducible refine gate_callee (f := 112) rfl ?_); refine goesL_ (some 40) rfl rfl Try.func112 (by kernel_rfl) rfl #[.slice A206_3 ((rd_T74 l0 x11_1).f3).length c206_3] rfl (by (try simp only [List.map_toArray, List.map_cons, List.map_nil]); first | done | rfl | (simp only [List.length_drop, List.length_take]; rfl)) ?_; (with_reducible refine (impl_ProgramFault.calls kj5 _ _ ((rd_T74 l0 x11_1).f3) t212 _ ?side1 ?side2 A21.out).mono ?_); (case side1 => repeat (first | exact (Kd.C_below HR206_3.out HB.out) | (with_reducible refine Kd.C_alloc ?_ _) | (with_reducible refine Kd.C_drewN ?_ _) | (with_reducible refine Kd.C_drew ?_))); (case side2 => exact HC206_3.out); rintro e w' ⟨rfl, ⟨nd, rfl⟩⟩; refine ⟨_, rfl, ?_⟩))
                        (try (rw [drewN_self wc]; generalize hq_ : World.drewN wc _ = wc; have n0_ : Aside0 (wc.heap[gb207]? = some (.cells #[.int .i64 ((rd_T74 l0 x11_1).f0), .int .i64 ((rd_T74 l0 x11_1).f1), .int .i64 ((rd_T74 l0 x11_1).f2), .slice A206_3 ((rd_T74 l0 x11_1).f3).length c206_3, .int .i64 ((rd_T74 l0 x11_1).f4), .bool ((rd_T74 l0 x11_1).f5)] 74 (0, 0))) := ⟨by rw [← hq_]; exact (by (with_reducible repeat (first | refine blk_drewN ?_ _ | refine blk_drew ?_ | refine blk_alloc ?_ _)); exact BK207.out)⟩; have n1_ : Aside0 (Below w.heap.size w wc) := ⟨by rw [← hq_]; exact (by repeat (first | (with_reducible first | exact HB.out | apply below_alloc | apply pw_below_drewN | apply below_drew1 | refine below_set ?_ GE207.out) | exact HB.out))⟩; clear BK207 HB hq_; have BK207 := n0_; have HB := n1_; clear n0_ n1_))
                        have n0_ := Aside0.mk (blk_drew BK207.out)
                        have n1_ := Aside0.mk (below_drew1 HB.out)
                        clear BK207
                        clear HB
                        have BK207 := n0_
                        have HB := n1_
                        clear n0_ n1_
                        refine start_ (n := 12) (S := fun w' => True) (ds := []) #[false, false, false, false, false, false, false, false, false, false, false, false] (by kernel_rfl) rfl rfl trivial (fun hHeld => ?_); refine with_tabW impl_CoinsFault.tab11 impl_CoinsFault.bits11 (fun HT_ HW_ => ?_)
                        generalize wc.drew = w36 at BK207 HB hHeld ⊢
                        refine pure_ (i := 0) (N := some 44) (v := ?_) (a' := ?_) #[true, false, false, false, false, false, false, false, false, false, false, false] rfl rfl (any_of HT_.out (by kernel_rfl)) (fun _ _ _ h => h) (Or.inl ⟨by rfl, ?_⟩) ?_ ?_
                        rotate_left
                        · intro w'
                          go_simp
                          with_reducible rfl
                        rotate_left
                        · simp only [Act.put, List.setIfInBounds_toArray, List.set_cons_zero, List.set_cons_succ, i64_w, i32_w]
                          rfl
                        refine pure_ (i := 1) (N := some 45) (v := ?_) (a' := ?_) #[true, true, false, false, false, false, false, false, false, false, false, false] rfl rfl (any_of HT_.out (by kernel_rfl)) (fun _ _ _ h => h) (Or.inl ⟨by rfl, ?_⟩) ?_ ?_
                        rotate_left
                        · intro w'
                          go_simp
                          with_reducible rfl
                        rotate_left
                        · simp only [Act.put, List.setIfInBounds_toArray, List.set_cons_zero, List.set_cons_succ, i64_w, i32_w]
                          rfl
                        refine pure_ (i := 2) (N := some 46) (v := ?_) (a' := ?_) #[true, true, true, false, false, false, false, false, false, false, false, false] rfl rfl (any_of HT_.out (by kernel_rfl)) (fun _ _ _ h => h) (Or.inl ⟨by rfl, ?_⟩) ?_ ?_
                        rotate_left
                        · intro w'
                          go_simp
                          with_reducible rfl
                        rotate_left
                        · simp only [Act.put, List.setIfInBounds_toArray, List.set_cons_zero, List.set_cons_succ, i64_w, i32_w]
                          rfl
                        refine pure_ (i := 3) (N := some 47) (v := undef) (a' := ?_) #[true, true, true, true, false, false, false, false, false, false, false, false] rfl rfl (any_of HT_.out (by kernel_rfl)) (fun _ _ _ h => h) (Or.inr ⟨by rfl, rfl⟩) ?_ ?_
                        rotate_left
                        · simp only [Act.put, List.setIfInBounds_toArray, List.set_cons_zero, List.set_cons_succ, i64_w, i32_w]
                          rfl
                        refine pure_ (i := 4) (N := some 48) (v := undef) (a' := ?_) #[true, true, true, true, true, false, false, false, false, false, false, false] rfl rfl (any_of HT_.out (by kernel_rfl)) (fun _ _ _ h => h) (Or.inr ⟨by rfl, rfl⟩) ?_ ?_
                        rotate_left
                        · simp only [Act.put, List.setIfInBounds_toArray, List.set_cons_zero, List.set_cons_succ, i64_w, i32_w]
                          rfl
                        refine pure_ (i := 5) (N := some 49) (v := undef) (a' := ?_) #[true, true, true, true, true, true, false, false, false, false, false, false] rfl rfl (any_of HT_.out (by kernel_rfl)) (fun _ _ _ h => h) (Or.inr ⟨by rfl, rfl⟩) ?_ ?_
                        rotate_left
                        · simp only [Act.put, List.setIfInBounds_toArray, List.set_cons_zero, List.set_cons_succ, i64_w, i32_w]
                          rfl
                        refine pure_ (i := 6) (N := some 50) (v := undef) (a' := ?_) #[true, true, true, true, true, true, true, false, false, false, false, false] rfl rfl (any_of HT_.out (by kernel_rfl)) (fun _ _ _ h => h) (Or.inr ⟨by rfl, rfl⟩) ?_ ?_
                        rotate_left
                        · simp only [Act.put, List.setIfInBounds_toArray, List.set_cons_zero, List.set_cons_succ, i64_w, i32_w]
                          rfl
                        refine pure_ (i := 7) (N := some 51) (v := undef) (a' := ?_) #[true, true, true, true, true, true, true, true, false, false, false, false] rfl rfl (any_of HT_.out (by kernel_rfl)) (fun _ _ _ h => h) (Or.inr ⟨by rfl, rfl⟩) ?_ ?_
                        rotate_left
                        · simp only [Act.put, List.setIfInBounds_toArray, List.set_cons_zero, List.set_cons_succ, i64_w, i32_w]
                          rfl
                        refine pure_ (i := 8) (N := some 52) (v := undef) (a' := ?_) #[true, true, true, true, true, true, true, true, true, false, false, false] rfl rfl (any_of HT_.out (by kernel_rfl)) (fun _ _ _ h => h) (Or.inr ⟨by rfl, rfl⟩) ?_ ?_
                        rotate_left
                        · simp only [Act.put, List.setIfInBounds_toArray, List.set_cons_zero, List.set_cons_succ, i64_w, i32_w]
                          rfl
                        refine pure_ (i := 9) (N := some 53) (v := undef) (a' := ?_) #[true, true, true, true, true, true, true, true, true, true, false, false] rfl rfl (any_of HT_.out (by kernel_rfl)) (fun _ _ _ h => h) (Or.inr ⟨by rfl, rfl⟩) ?_ ?_
                        rotate_left
                        · simp only [Act.put, List.setIfInBounds_toArray, List.set_cons_zero, List.set_cons_succ, i64_w, i32_w]
                          rfl
                        refine pure_ (i := 10) (N := some 54) (v := undef) (a' := ?_) #[true, true, true, true, true, true, true, true, true, true, true, false] rfl rfl (any_of HT_.out (by kernel_rfl)) (fun _ _ _ h => h) (Or.inr ⟨by rfl, rfl⟩) ?_ ?_
                        rotate_left
                        · simp only [Act.put, List.setIfInBounds_toArray, List.set_cons_zero, List.set_cons_succ, i64_w, i32_w]
                          rfl
                        refine pure_ (i := 11) (N := some 55) (v := ?_) (a' := ?_) #[true, true, true, true, true, true, true, true, true, true, true, true] rfl rfl (any_of HT_.out (by kernel_rfl)) (fun _ _ _ h => h) (Or.inl ⟨by rfl, ?_⟩) ?_ ?_
                        rotate_left
                        · intro w'
                          go_simp
                          with_reducible rfl
                        rotate_left
                        · simp only [Act.put, List.setIfInBounds_toArray, List.set_cons_zero, List.set_cons_succ, i64_w, i32_w]
                          rfl
                        refine done_ (done_of HT_.out (by kernel_rfl)) ?_
                        try go_wp2
                        go_roundg kj5
                        case measure => have := HK1.out; have := HJ5.out; omega
                        case rel => exact ⟨(wrap64 (x11_1 + 1)), (by first | rfl | (simp; done) | (simp [*]; done)), H', ⟨by have := HK1.out; have := HJ5.out; omega⟩, ⟨by repeat (first | (with_reducible first | exact HB.out | apply below_alloc | apply pw_below_drewN | apply below_drew1 | refine below_set ?_ GE207.out) | exact HB.out)⟩⟩
                    · rw [if_neg c22] at H
                      have c22b0 : (t212 == 0) = false := beq_eq_false_iff_ne.mpr c22
                      have c22b1 : (t212 != 0) = true := bne_iff_ne.mpr c22
                      obtain rfl := Option.some.inj H
                      have hcz37_0 : wc.cell? ⟨gb207, 0, none⟩ = some (.int .i64 ((rd_T74 l0 x11_1).f0)) := (blk_cell BK207.out 0).trans rfl
                      have hcz37_1 : wc.cell? ⟨gb207, 1, none⟩ = some (.int .i64 ((rd_T74 l0 x11_1).f1)) := (blk_cell BK207.out 1).trans rfl
                      have hcz37_2 : wc.cell? ⟨gb207, 2, none⟩ = some (.int .i64 ((rd_T74 l0 x11_1).f2)) := (blk_cell BK207.out 2).trans rfl
                      have hcz37_3 : wc.cell? ⟨gb207, 3, none⟩ = some (.slice A206_3 ((rd_T74 l0 x11_1).f3).length c206_3) := (blk_cell BK207.out 3).trans rfl
                      have hcz37_4 : wc.cell? ⟨gb207, 4, none⟩ = some (.int .i64 ((rd_T74 l0 x11_1).f4)) := (blk_cell BK207.out 4).trans rfl
                      have hcz37_5 : wc.cell? ⟨gb207, 5, none⟩ = some (.bool ((rd_T74 l0 x11_1).f5)) := (blk_cell BK207.out 5).trans rfl
                      have hfz37_0 := blk_frozen BK207.out 0
                      have hfz37_1 := blk_frozen BK207.out 1
                      have hfz37_2 := blk_frozen BK207.out 2
                      have hfz37_3 := blk_frozen BK207.out 3
                      have hfz37_4 := blk_frozen BK207.out 4
                      have hfz37_5 := blk_frozen BK207.out 5
                      go_wp2_with (first | ((with_reducible refine gate_callee (f := 112) rfl ?_); refine goesL_ (some 40) rfl rfl Try.func112 (by kernel_rfl) rfl #[.slice A206_3 ((rd_T74 l0 x11_1).f3).length c206_3] rfl (by (try simp only [List.map_toArray, List.map_cons, List.map_nil]); first | done | rfl | (simp only [List.length_drop, List.length_take]; rfl)) ?_; (with_reducible refine (impl_ProgramFault.calls kj5 _ _ ((rd_T74 l0 x11_1).f3) t212 _ ?side1 ?side2 A21.out).mono ?_); (case side1 => repeat (first | exact (Kd.C_below HR206_3.out HB.out) | (with_reducible refine Kd.C_alloc ?_ _) | (with_reducible refine Kd.C_drewN ?_ _) | (with_reducible refine Kd.C_drew ?_))); (case side2 => exact HC206_3.out); rintro e w' ⟨rfl, ⟨nd, rfl⟩⟩; refine ⟨_, rfl, ?_⟩))
                      go_ret
                      exact ⟨by first | rfl | (simp [errW_none, errW_some] <;> rfl) | (simp [*, errW_none, errW_some] <;> rfl), by repeat (first | (with_reducible first | exact HB.out | apply below_alloc | apply pw_below_drewN | apply below_drew1 | refine below_set ?_ GE207.out) | exact HB.out)⟩
            · rw [if_neg c5] at H
              exact absurd H (by simp)
          · rw [if_neg c4] at H
            exact absurd H (by simp)
        · rw [if_neg c3] at H
          have c3b0 : decide (x11_1 < (l0.length : Int)) = false := decide_eq_false c3
          clear c3
          replace H := Option.bind_eq_some_iff.mp H
          obtain ⟨t215, A380, H⟩ := H
          replace H : ((impl_isAmount.f t215).bind fun t216 => (if t216 = true then (some 0) else (some 7))) = some r := H
          have A38 := Aside0.mk A380
          clear A380
          replace H := Option.bind_eq_some_iff.mp H
          obtain ⟨t216, A390, H⟩ := H
          replace H : (if t216 = true then (some 0) else (some 7)) = some r := H
          have A39 := Aside0.mk A390
          clear A390
          by_cases c40 : t216 = true
          · subst c40
            have H1 : (some 0) = some r := by rw [if_pos rfl] at H; exact H
            clear H
            have H := H1
            clear H1
            obtain rfl := Option.some.inj H
            go_wp2_with (first | ((with_reducible refine gate_callee (f := 114) rfl ?_); refine goesL_ (some 58) rfl rfl Try.func114 (by kernel_rfl) rfl #[.slice A0 l0.length c0] rfl (by (try simp only [List.map_toArray, List.map_cons, List.map_nil]); first | done | rfl | (simp only [List.length_drop, List.length_take]; rfl)) ?_; (with_reducible refine (impl_worth.calls k1 _ _ l0 t215 _ ?side1 ?side2 A38.out).mono ?_); (case side1 => repeat (first | exact (Kd.C_below HR0.out HB.out) | (with_reducible refine Kd.C_alloc ?_ _) | (with_reducible refine Kd.C_drewN ?_ _) | (with_reducible refine Kd.C_drew ?_))); (case side2 => exact HC0.out); rintro e w41 ⟨rfl, hb⟩; refine ⟨_, rfl, ?_⟩; have n0_ := Aside0.mk (below_step (by repeat (first | (with_reducible first | exact HB.out | apply below_alloc | apply pw_below_drewN | apply below_drew1) | exact HB.out)) hb); clear HB; have HB := n0_; clear n0_; (try clear hb); (try clear hb2); (try clear hk); (try clear hi)) | ((with_reducible refine gate_callee (f := 85) rfl ?_); refine goesL_ (some 59) rfl rfl Try.func85 (by kernel_rfl) rfl #[.int .i64 t215] rfl (by (try simp only [List.map_toArray, List.map_cons, List.map_nil]); first | done | rfl | (simp only [List.length_drop, List.length_take]; rfl)) ?_; (with_reducible refine (impl_isAmount.calls t215 true _ A39.out).mono ?_); rintro e w' ⟨rfl, ⟨nd, rfl⟩⟩; refine ⟨_, rfl, ?_⟩))
            go_ret
            exact ⟨by first | rfl | (simp [errW_none, errW_some] <;> rfl) | (simp [*, errW_none, errW_some] <;> rfl), by repeat (first | (with_reducible first | exact HB.out | apply below_alloc | apply pw_below_drewN | apply below_drew1) | exact HB.out)⟩
          · replace c40 := Bool.eq_false_iff.mpr c40
            subst c40
            have H1 : (some 7) = some r := by rw [if_neg (show ¬ (false = true) by decide)] at H; exact H
            clear H
            have H := H1
            clear H1
            obtain rfl := Option.some.inj H
            go_wp2_with (first | ((with_reducible refine gate_callee (f := 114) rfl ?_); refine goesL_ (some 58) rfl rfl Try.func114 (by kernel_rfl) rfl #[.slice A0 l0.length c0] rfl (by (try simp only [List.map_toArray, List.map_cons, List.map_nil]); first | done | rfl | (simp only [List.length_drop, List.length_take]; rfl)) ?_; (with_reducible refine (impl_worth.calls k1 _ _ l0 t215 _ ?side1 ?side2 A38.out).mono ?_); (case side1 => repeat (first | exact (Kd.C_below HR0.out HB.out) | (with_reducible refine Kd.C_alloc ?_ _) | (with_reducible refine Kd.C_drewN ?_ _) | (with_reducible refine Kd.C_drew ?_))); (case side2 => exact HC0.out); rintro e w42 ⟨rfl, hb⟩; refine ⟨_, rfl, ?_⟩; have n0_ := Aside0.mk (below_step (by repeat (first | (with_reducible first | exact HB.out | apply below_alloc | apply pw_below_drewN | apply below_drew1) | exact HB.out)) hb); clear HB; have HB := n0_; clear n0_; (try clear hb); (try clear hb2); (try clear hk); (try clear hi)) | ((with_reducible refine gate_callee (f := 85) rfl ?_); refine goesL_ (some 59) rfl rfl Try.func85 (by kernel_rfl) rfl #[.int .i64 t215] rfl (by (try simp only [List.map_toArray, List.map_cons, List.map_nil]); first | done | rfl | (simp only [List.length_drop, List.length_take]; rfl)) ?_; (with_reducible refine (impl_isAmount.calls t215 false _ A39.out).mono ?_); rintro e w' ⟨rfl, ⟨nd, rfl⟩⟩; refine ⟨_, rfl, ?_⟩))
            go_ret
            exact ⟨by first | rfl | (simp [errW_none, errW_some] <;> rfl) | (simp [*, errW_none, errW_some] <;> rfl), by repeat (first | (with_reducible first | exact HB.out | apply below_alloc | apply pw_below_drewN | apply below_drew1) | exact HB.out)⟩

end Go.Proofs.Ytjgnjhbleiempaa.QFnExactFindCoin
