import Derived.Laws.Strings
import Derived.Test.YthjlbpgiaehjnaaDoorHNum
import Derived.Test.YthjlbpgiaehjnaaDoorWWords
import Derived.Test.YthjlbpgiaehjnaaDoorWMore
import Derived.Test.YthjlbpgiaehjnaaDoorWLast
namespace Go.Proofs.YthjlbpgiaehjnaaDoor.HNum
open Go.Shelf Go.RowKit Go.Proofs.YthjlbpgiaehjnaaDoor.NumMath Go.Proofs.YthjlbpgiaehjnaaDoorW.PrintWords
/-- A box outlives what leaves old blocks alone. -/
theorem box_below {w w' : World} {g : Nat} {o : Obj} (h : w.heap[g]? = some o) (hb : Below w.heap.size w w') : w'.heap[g]? = some o := by
  have hlt : g < w.heap.size := by
    rcases Nat.lt_or_ge g w.heap.size with h' | h'
    · exact h'
    · rw [Array.getElem?_eq_none h'] at h; cases h
  rw [hb.block g hlt]; exact h
set_option maxHeartbeats 1000000 in
set_option maxRecDepth 100000 in
/-- What is no numeral, or one that no int64 holds. -/
theorem no_walk (s : ByteArray) (hlim : s.size ≤ 281474976710656) (h : ∀ v, Lib.parseIntB 64 s.data.toList ≠ .ok v) (w : World) (hV : Vars w) :
    Calls Tryd.prog 17 #[.string s] w fun e w' => e = .returned (.agg #[.int .i64 5, .int .i64 0]) ∧ Below w.heap.size w w' := by
  have hu := Tryd.underlying37
  by_cases h5 : (5:Int) < (s.size : Int)
  · have h5b : decide ((5:Int) < (s.size : Int)) = true := decide_eq_true h5
    go_enter Tryd.func17, Tryd.ntmps17
    go_wp2_with (first | ((with_reducible refine gate_dst (N := 2) rfl ?_); refine box_event ?hg (N := 2) ?hd (cs := #[.int .i64 0, .int .i64 0]) (t := 37) ?hr ?_; (case hd => rfl); (case hg => rfl); (case hr => first | (go_simp; done) | (go_simp; rfl)); intro gb hg w4 hbox hb; have hV4 := hV.below hb; have hB4 := Aside0.mk hb; have hge : Aside0 (w.heap.size ≤ gb) := ⟨by rw [hg]; exact Nat.le_refl _⟩; have hbox := Aside0.mk hbox; clear hV hg hb) | (go_at_call 47; refine (parse_no s hlim h _ hV4).mono ?_; rintro e w1 ⟨n, t, p, rfl, hb1⟩; have hbx := box_below hbox.out hb1; have hcz0 : w1.cell? ⟨gb, 0, none⟩ = some (.int .i64 0) := (blk_cell hbx 0).trans rfl; have hcz1 : w1.cell? ⟨gb, 1, none⟩ = some (.int .i64 0) := (blk_cell hbx 1).trans rfl; have hfz0 := blk_frozen hbx 0; have hfz1 := blk_frozen hbx 1))
    exact bodyPost_ret (results_cell_row rfl _ _ gb 37 #[.int .i64 (5), .int .i64 (0)] (0, 0) _ rfl (blk_put (cs := #[.int .i64 (5), .int .i64 0]) (blk_put (cs := #[.int .i64 0, .int .i64 0]) hbx 0 _ rfl) 1 _ rfl) Tryd.underlying37 rfl (by kernel_rfl)) rfl ⟨rfl, below_set (below_set (below_step hB4.out hb1) hge.out) hge.out⟩
  · have h5b : decide ((5:Int) < (s.size : Int)) = false := decide_eq_false h5
    go_enter Tryd.func17, Tryd.ntmps17
    go_wp2_with (first | ((with_reducible refine gate_dst (N := 2) rfl ?_); refine box_event ?hg (N := 2) ?hd (cs := #[.int .i64 0, .int .i64 0]) (t := 37) ?hr ?_; (case hd => rfl); (case hg => rfl); (case hr => first | (go_simp; done) | (go_simp; rfl)); intro gb hg w4 hbox hb; have hV4 := hV.below hb; have hB4 := Aside0.mk hb; have hge : Aside0 (w.heap.size ≤ gb) := ⟨by rw [hg]; exact Nat.le_refl _⟩; have hbox := Aside0.mk hbox; clear hV hg hb) | (go_at_call 47; refine (parse_no s hlim h _ hV4).mono ?_; rintro e w1 ⟨n, t, p, rfl, hb1⟩; have hbx := box_below hbox.out hb1; have hcz0 : w1.cell? ⟨gb, 0, none⟩ = some (.int .i64 0) := (blk_cell hbx 0).trans rfl; have hcz1 : w1.cell? ⟨gb, 1, none⟩ = some (.int .i64 0) := (blk_cell hbx 1).trans rfl; have hfz0 := blk_frozen hbx 0; have hfz1 := blk_frozen hbx 1))
    exact bodyPost_ret (results_cell_row rfl _ _ gb 37 #[.int .i64 (5), .int .i64 (0)] (0, 0) _ rfl (blk_put (cs := #[.int .i64 (5), .int .i64 0]) (blk_put (cs := #[.int .i64 0, .int .i64 0]) hbx 0 _ rfl) 1 _ rfl) Tryd.underlying37 rfl (by kernel_rfl)) rfl ⟨rfl, below_set (below_set (below_step hB4.out hb1) hge.out) hge.out⟩
set_option maxHeartbeats 1000000 in
set_option maxRecDepth 100000 in
/-- A numeral that is not the one that is sought. -/
theorem bad_walk (s : ByteArray) (hlim : s.size ≤ 281474976710656) (v : Int) (h : Lib.parseIntB 64 s.data.toList = .ok v) (hc : (5:Int) < (s.size : Int) ∨ v < 0 ∨ Lib.itoa v ≠ s.data.toList) (w : World) (hV : Vars w) :
    Calls Tryd.prog 17 #[.string s] w fun e w' => e = .returned (.agg #[.int .i64 5, .int .i64 0]) ∧ Below w.heap.size w w' := by
  have hu := Tryd.underlying37
  have hv : -9223372036854775808 ≤ v ∧ v ≤ 9223372036854775807 := by
    have := Lib.parseIntB_bounds h
    simp at this; omega
  by_cases h5 : (5:Int) < (s.size : Int)
  · have h5b : decide ((5:Int) < (s.size : Int)) = true := decide_eq_true h5
    clear hc
    go_enter Tryd.func17, Tryd.ntmps17
    go_wp2_with (first | ((with_reducible refine gate_dst (N := 2) rfl ?_); refine box_event ?hg (N := 2) ?hd (cs := #[.int .i64 0, .int .i64 0]) (t := 37) ?hr ?_; (case hd => rfl); (case hg => rfl); (case hr => first | (go_simp; done) | (go_simp; rfl)); intro gb hg w4 hbox hb; have hV4 := hV.below hb; have hB4 := Aside0.mk hb; have hge : Aside0 (w.heap.size ≤ gb) := ⟨by rw [hg]; exact Nat.le_refl _⟩; have hbox := Aside0.mk hbox; clear hV hg hb) | (go_at_call 47; refine (parse_ok s (by omega) v h _).mono ?_; rintro e w1 ⟨rfl, hb1⟩; have hbx := box_below hbox.out hb1; have hcz0 : w1.cell? ⟨gb, 0, none⟩ = some (.int .i64 0) := (blk_cell hbx 0).trans rfl; have hcz1 : w1.cell? ⟨gb, 1, none⟩ = some (.int .i64 0) := (blk_cell hbx 1).trans rfl; have hfz0 := blk_frozen hbx 0; have hfz1 := blk_frozen hbx 1))
    exact bodyPost_ret (results_cell_row rfl _ _ gb 37 #[.int .i64 (5), .int .i64 (0)] (0, 0) _ rfl (blk_put (cs := #[.int .i64 (5), .int .i64 0]) (blk_put (cs := #[.int .i64 0, .int .i64 0]) hbx 0 _ rfl) 1 _ rfl) Tryd.underlying37 rfl (by kernel_rfl)) rfl ⟨rfl, below_set (below_set (below_step hB4.out hb1) hge.out) hge.out⟩
  · have h5b : decide ((5:Int) < (s.size : Int)) = false := decide_eq_false h5
    by_cases h0 : v < 0
    · have h0b : decide (v < 0) = true := decide_eq_true h0
      clear hc
      go_enter Tryd.func17, Tryd.ntmps17
      go_wp2_with (first | ((with_reducible refine gate_dst (N := 2) rfl ?_); refine box_event ?hg (N := 2) ?hd (cs := #[.int .i64 0, .int .i64 0]) (t := 37) ?hr ?_; (case hd => rfl); (case hg => rfl); (case hr => first | (go_simp; done) | (go_simp; rfl)); intro gb hg w4 hbox hb; have hV4 := hV.below hb; have hB4 := Aside0.mk hb; have hge : Aside0 (w.heap.size ≤ gb) := ⟨by rw [hg]; exact Nat.le_refl _⟩; have hbox := Aside0.mk hbox; clear hV hg hb) | (go_at_call 47; refine (parse_ok s (by omega) v h _).mono ?_; rintro e w1 ⟨rfl, hb1⟩; have hbx := box_below hbox.out hb1; have hcz0 : w1.cell? ⟨gb, 0, none⟩ = some (.int .i64 0) := (blk_cell hbx 0).trans rfl; have hcz1 : w1.cell? ⟨gb, 1, none⟩ = some (.int .i64 0) := (blk_cell hbx 1).trans rfl; have hfz0 := blk_frozen hbx 0; have hfz1 := blk_frozen hbx 1))
      exact bodyPost_ret (results_cell_row rfl _ _ gb 37 #[.int .i64 (5), .int .i64 (0)] (0, 0) _ rfl (blk_put (cs := #[.int .i64 (5), .int .i64 0]) (blk_put (cs := #[.int .i64 0, .int .i64 0]) hbx 0 _ rfl) 1 _ rfl) Tryd.underlying37 rfl (by kernel_rfl)) rfl ⟨rfl, below_set (below_set (below_step hB4.out hb1) hge.out) hge.out⟩
    · have h0b : decide (v < 0) = false := decide_eq_false h0
      have hq : Lib.itoa v ≠ s.data.toList := (hc.resolve_left h5).resolve_left h0
      have hqb : (Lib.itoa v == s.toList) = false := by rw [ByteArray.toList_eq]; exact beq_eq_false_iff_ne.2 hq
      clear hc
      go_enter Tryd.func17, Tryd.ntmps17
      go_wp2_with (first | ((with_reducible refine gate_dst (N := 2) rfl ?_); refine box_event ?hg (N := 2) ?hd (cs := #[.int .i64 0, .int .i64 0]) (t := 37) ?hr ?_; (case hd => rfl); (case hg => rfl); (case hr => first | (go_simp; done) | (go_simp; rfl)); intro gb hg w4 hbox hb; have hV4 := hV.below hb; have hB4 := Aside0.mk hb; have hge : Aside0 (w.heap.size ≤ gb) := ⟨by rw [hg]; exact Nat.le_refl _⟩; have hbox := Aside0.mk hbox; clear hV hg hb) | (go_at_call 47; refine (parse_ok s (by omega) v h _).mono ?_; rintro e w1 ⟨rfl, hb1⟩; have hbx := box_below hbox.out hb1; skip) | (go_at_call 48; refine (decimal_ok v (by omega) hv.2 _ (hV4.below hb1)).mono ?_; rintro e w2 ⟨rfl, hb2⟩; have hby := box_below hbx hb2; have hcz0 : w2.cell? ⟨gb, 0, none⟩ = some (.int .i64 0) := (blk_cell hby 0).trans rfl; have hcz1 : w2.cell? ⟨gb, 1, none⟩ = some (.int .i64 0) := (blk_cell hby 1).trans rfl; have hfz0 := blk_frozen hby 0; have hfz1 := blk_frozen hby 1))
      exact bodyPost_ret (results_cell_row rfl _ _ gb 37 #[.int .i64 (5), .int .i64 (0)] (0, 0) _ rfl (blk_put (cs := #[.int .i64 (5), .int .i64 0]) (blk_put (cs := #[.int .i64 0, .int .i64 0]) hby 0 _ rfl) 1 _ rfl) Tryd.underlying37 rfl (by kernel_rfl)) rfl ⟨rfl, below_set (below_set (below_step (below_step hB4.out hb1) hb2) hge.out) hge.out⟩
set_option maxHeartbeats 1000000 in
set_option maxRecDepth 100000 in
/-- The numeral as it is written. -/
theorem good_walk (s : ByteArray) (hlim : s.size ≤ 281474976710656) (v : Int) (h : Lib.parseIntB 64 s.data.toList = .ok v) (h5 : ¬ (5:Int) < (s.size : Int)) (h0 : ¬ v < 0) (hq : Lib.itoa v = s.data.toList) (w : World) (hV : Vars w) :
    Calls Tryd.prog 17 #[.string s] w fun e w' => e = .returned (.agg #[.int .i64 0, .int .i64 v]) ∧ Below w.heap.size w w' := by
  have hu := Tryd.underlying37
  have hv : -9223372036854775808 ≤ v ∧ v ≤ 9223372036854775807 := by
    have := Lib.parseIntB_bounds h
    simp at this; omega
  have h5b : decide ((5:Int) < (s.size : Int)) = false := decide_eq_false h5
  have h0b : decide (v < 0) = false := decide_eq_false h0
  have hqb : (Lib.itoa v == s.toList) = true := by rw [ByteArray.toList_eq]; exact beq_iff_eq.2 hq
  go_enter Tryd.func17, Tryd.ntmps17
  go_wp2_with (first | ((with_reducible refine gate_dst (N := 2) rfl ?_); refine box_event ?hg (N := 2) ?hd (cs := #[.int .i64 0, .int .i64 0]) (t := 37) ?hr ?_; (case hd => rfl); (case hg => rfl); (case hr => first | (go_simp; done) | (go_simp; rfl)); intro gb hg w4 hbox hb; have hV4 := hV.below hb; have hB4 := Aside0.mk hb; have hge : Aside0 (w.heap.size ≤ gb) := ⟨by rw [hg]; exact Nat.le_refl _⟩; have hbox := Aside0.mk hbox; clear hV hg hb) | (go_at_call 47; refine (parse_ok s (by omega) v h _).mono ?_; rintro e w1 ⟨rfl, hb1⟩; have hbx := box_below hbox.out hb1; skip) | (go_at_call 48; refine (decimal_ok v (by omega) hv.2 _ (hV4.below hb1)).mono ?_; rintro e w2 ⟨rfl, hb2⟩; have hby := box_below hbx hb2; have hcz0 : w2.cell? ⟨gb, 0, none⟩ = some (.int .i64 0) := (blk_cell hby 0).trans rfl; have hcz1 : w2.cell? ⟨gb, 1, none⟩ = some (.int .i64 0) := (blk_cell hby 1).trans rfl; have hfz0 := blk_frozen hby 0; have hfz1 := blk_frozen hby 1))
  exact bodyPost_ret (results_cell_row rfl _ _ gb 37 #[.int .i64 (0), .int .i64 (v)] (0, 0) _ rfl (blk_put (cs := #[.int .i64 (0), .int .i64 0]) (blk_put (cs := #[.int .i64 0, .int .i64 0]) hby 0 _ rfl) 1 _ rfl) Tryd.underlying37 rfl (by kernel_rfl)) rfl ⟨rfl, below_set (below_set (below_step (below_step hB4.out hb1) hb2) hge.out) hge.out⟩

theorem walk (s : ByteArray) (hlim : s.size ≤ 281474976710656) (w : World) (hV : Vars w) :
    Calls Tryd.prog 17 #[.string s] w fun e w' => e = .returned (.agg #[.int .i64 (numV s.data.toList).1, .int .i64 (numV s.data.toList).2]) ∧ Below w.heap.size w w' := by
  have el : s.data.toList.length = s.size := Array.length_toList
  by_cases hp : ∃ v, Lib.parseIntB 64 s.data.toList = .ok v
  · obtain ⟨v, h⟩ := hp
    by_cases hc : (5:Int) < (s.size : Int) ∨ v < 0 ∨ Lib.itoa v ≠ s.data.toList
    · have e : numV s.data.toList = (5, 0) := by
        by_cases h5 : (5:Int) < (s.size : Int)
        · exact numV_bad (fun hg => by have := hg.1; omega)
        · refine numV_no (fun n hn h0 he => ?_)
          obtain rfl : v = n := by rw [h] at hn; cases hn; rfl
          rcases hc with hc | hc | hc
          · exact h5 hc
          · omega
          · exact hc he
      rw [e]; exact bad_walk s hlim v h hc w hV
    · have h5 : ¬ (5:Int) < (s.size : Int) := fun x => hc (.inl x)
      have h0 : ¬ v < 0 := fun x => hc (.inr (.inl x))
      have hq : Lib.itoa v = s.data.toList := by
        by_cases q : Lib.itoa v = s.data.toList
        · exact q
        · exact absurd (.inr (.inr q)) hc
      have e : numV s.data.toList = (0, v) := numV_ok (by omega) h (by omega) hq
      rw [e]; exact good_walk s hlim v h h5 h0 hq w hV
  · have h : ∀ v, Lib.parseIntB 64 s.data.toList ≠ .ok v := fun v x => hp ⟨v, x⟩
    rw [numV_no (fun n hn => absurd hn (h n))]
    exact no_walk s hlim h w hV
end Go.Proofs.YthjlbpgiaehjnaaDoor.HNum
