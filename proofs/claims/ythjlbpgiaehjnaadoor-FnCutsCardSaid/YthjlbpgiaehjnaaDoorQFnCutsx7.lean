-- written by this session's program (wip/tools/myprint.py)
import Derived.Lib.SliceRun
import Derived.Test.YthjlbpgiaehjnaaDoorQFnCutsx0
import Derived.Test.YthjlbpgiaehjnaaDoorQFnCutsx5
import Derived.Test.YthjlbpgiaehjnaaDoorQFnCutsx6
-- squeezed
namespace Go.Proofs.YthjlbpgiaehjnaaDoor.QFnCuts
open Go.RowKit Go.Proofs.YthjlbpgiaehjnaaDoorW.PrintWords Go.Proofs.YthjlbpgiaehjnaaDoorW.PrintLast Go.Proofs.YthjlbpgiaehjnaaDoorW.PrintMore
attribute [local go_sem] max2_int min2_int max_two min_two max_three min_three max_four min_four   -- for this text's walks alone
set_option linter.unusedVariables false
set_option linter.unusedSimpArgs false
set_option maxHeartbeats 8000000
set_option maxRecDepth 100000
/-- What ValsFault does from a place on. -/
def impl_ValsFault.l0 : Nat → List S81 → Int → Option Int
 | 0, _, _ => none
 | k + 1, x0, x => if x < (x0.length : Int) then (if 0 ≤ x then ((impl_valFault.f k ((rd_T81 x0 x).f0) ((rd_T81 x0 x).f1) ((rd_T81 x0 x).f2)).bind fun c => if c = 0 then impl_ValsFault.l0 k x0 (wrap64 (x + 1)) else some c) else none) else ((impl_structure_value.f x0 false false false 0 0).bind fun r => if r.2.1 = true then some 1 else if r.1 = (x0.length : Int) then (if r.2.2.1 = true then some 6 else if r.2.2.2 = true then some 2 else some 0) else some 1)
def impl_ValsFault.f (k : Nat) (l0 : List S81) : Option Int := (impl_in.f (l0.length : Int) 1 20).bind fun t => if t = true then impl_ValsFault.l0 k l0 0 else some 2
theorem impl_ValsFault.mono_l : ∀ k x0 x, LeO (impl_ValsFault.l0 k x0 x) (impl_ValsFault.l0 (k + 1) x0 x)
 | 0 => fun _ _ r h => by simp [impl_ValsFault.l0] at h
 | k + 1 => by
  intro x0 x r h
  unfold impl_ValsFault.l0 at h ⊢
  by_cases c1 : x < (x0.length : Int)
  · rw [if_pos c1] at h ⊢
    by_cases c2 : 0 ≤ x
    · rw [if_pos c2] at h ⊢
      obtain ⟨c, h1, h2⟩ := Option.bind_eq_some_iff.mp h
      refine Option.bind_eq_some_iff.mpr ⟨c, impl_valFault.mono _ _ _ _ _ h1, ?_⟩
      by_cases c3 : c = 0
      · rw [if_pos c3] at h2 ⊢
        exact impl_ValsFault.mono_l k _ _ r h2
      · rw [if_neg c3] at h2 ⊢
        exact h2
    · rw [if_neg c2] at h; cases h
  · rw [if_neg c1] at h ⊢
    exact h
theorem impl_ValsFault.mono : ∀ a0 k, LeO (impl_ValsFault.f k a0) (impl_ValsFault.f (k + 1) a0) := by
 intro a0 k r h
 unfold impl_ValsFault.f at h ⊢
 obtain ⟨t, h1, h2⟩ := Option.bind_eq_some_iff.mp h
 refine Option.bind_eq_some_iff.mpr ⟨t, h1, ?_⟩
 by_cases c : t = true
 · rw [if_pos c] at h2 ⊢
   exact impl_ValsFault.mono_l k _ _ r h2
 · rw [if_neg c] at h2 ⊢
   exact h2
set_option maxHeartbeats 4000000 in
set_option maxRecDepth 100000 in
theorem impl_ValsFault.calls (k : Nat) (A0 : Option Addr) (c0 : Nat) (l0 : List (S81)) (r : Int) (w : World) (hr0 : Kd.C k81 w A0 l0.length l0) (hc0 : l0.length ≤ c0) (h : impl_ValsFault.f k l0 = some r) :
 Calls Tryd.prog 31 #[.slice A0 l0.length c0] w fun e w' => e = .returned (.int .i64 r) ∧ Below w.heap.size w w' := by
 have hu129 := Tryd.underlying81
 have hu134 := Tryd.underlying98
 have HR0 := am hr0; have HC0 := am hc0; clear hr0 hc0
 unfold impl_ValsFault.f at h
 obtain ⟨t, ht, h⟩ := Option.bind_eq_some_iff.mp h
 have HT := am ht; clear ht
 by_cases c1 : t = true
 · rw [if_pos c1] at h
   subst c1
   have HC2 := am h; clear h
   have HB := am (Below.refl w.heap.size w)
   go_enter Tryd.func31, Tryd.ntmps31
   go_wp2_with (first | (go_at_call 39; refine (impl_in.calls _ _ _ true _ HT.out).mono ?_; rintro e w3 ⟨rfl, hd⟩; have n_ := am (bz_ HB.out hd.below); clear HB; have HB := n_; clear n_ hd))
   go_loopg [14] k (fun kq v14 w' => ∃ (x : Int), v14 = .int .i64 x ∧ Aside0 (impl_ValsFault.l0 kq l0 x = some r) ∧ Aside0 (kq ≤ k) ∧ Aside0 (Below w.heap.size w w'))
   case atStart => exact ⟨0, rfl, HC2, ⟨Nat.le_refl _⟩, HB⟩
   case round =>
    clear HC2 HB
    obtain ⟨x, rfl, HA, HK, HB⟩ := hrel
    cases gk with
    | zero => exact absurd HA.out (by simp [impl_ValsFault.l0])
    | succ k2 =>
     have H := HA.out
     clear HA
     simp only [impl_ValsFault.l0] at H
     by_cases c5 : x < (l0.length : Int)
     · rw [if_pos c5] at H
       have c5b0 : decide (x < (l0.length : Int)) = true := dt c5
       by_cases c6 : 0 ≤ x
       · rw [if_pos c6] at H
         obtain ⟨cc, A70, H⟩ := Option.bind_eq_some_iff.mp H
         have A7 := am A70; clear A70
         obtain ⟨ad, e, hx0, hx1, hx2⟩ := at_T81 HR0.out x c6 c5
         cases e
         replace hx0 := cb HB hx0; replace hx1 := cb HB hx1; replace hx2 := cb HB hx2
         have p5 := eq_true c6
         have q5 := eq_true c5
         have HH := am H; clear H c5 c6
         go_upto_region 6 with (first | ((with_reducible refine gate_dst (N := 4) rfl ?_); refine box_event ?hg (N := 4) ?hd (cs := #[.int .i64 0, .int .i64 0, .string ⟨#[]⟩]) (t := 81) ?hr ?_; (case hd => rfl); (case hg => rfl); (case hr => first | (go_simp; done) | (go_simp; rfl)); intro gv hgv w5 hbox hb; have HV5 := am hbox; have HB5 := am hb; have HGV := am hgv; have hz0 : w5.cell? ⟨gv, 0, none⟩ = some (.int .i64 0) := (blk_cell hbox 0).trans rfl; have hz1 : w5.cell? ⟨gv, 1, none⟩ = some (.int .i64 0) := (blk_cell hbox 1).trans rfl; have hz2 : w5.cell? ⟨gv, 2, none⟩ = some (.string ⟨#[]⟩) := (blk_cell hbox 2).trans rfl; have hzf0 := blk_frozen hbox 0; have hzf1 := blk_frozen hbox 1; have hzf2 := blk_frozen hbox 2; clear hbox hb hgv))
         have hgw0 : w.heap.size ≤ gv := by rw [HGV.out]; exact HB.out.size
         have HB6 := am (show Below w.heap.size w (((w5.setCell ⟨gv, 0, none⟩ (.int .i64 (rd_T81 l0 x).f0)).setCell ⟨gv, 1, none⟩ (.int .i64 (rd_T81 l0 x).f1)).setCell ⟨gv, 2, none⟩ (.string (rd_T81 l0 x).f2)) from below_set (below_set (below_set (bz_ HB.out HB5.out) hgw0) hgw0) hgw0)
         have hv6 := blk_put (cs := #[.int .i64 (rd_T81 l0 x).f0, .int .i64 (rd_T81 l0 x).f1, .string ⟨#[]⟩]) (blk_put (cs := #[.int .i64 (rd_T81 l0 x).f0, .int .i64 0, .string ⟨#[]⟩]) (blk_put HV5.out 0 (.int .i64 (rd_T81 l0 x).f0) rfl) 1 (.int .i64 (rd_T81 l0 x).f1) rfl) 2 (.string (rd_T81 l0 x).f2) rfl
         clear hz0 hz1 hz2 hzf0 hzf1 hzf2 hgw0 HV5 HB5 HGV hx0 hx1 hx2; clear HB
         have HB := HB6
         clear HB6
         generalize (((w5.setCell ⟨gv, 0, none⟩ (.int .i64 (rd_T81 l0 x).f0)).setCell ⟨gv, 1, none⟩ (.int .i64 (rd_T81 l0 x).f1)).setCell ⟨gv, 2, none⟩ (.string (rd_T81 l0 x).f2)) = w6 at HB hv6 ⊢
         have hy0 : w6.cell? ⟨gv, 0, none⟩ = some (.int .i64 (rd_T81 l0 x).f0) := (blk_cell hv6 0).trans rfl
         have hy1 : w6.cell? ⟨gv, 1, none⟩ = some (.int .i64 (rd_T81 l0 x).f1) := (blk_cell hv6 1).trans rfl
         have hy2 : w6.cell? ⟨gv, 2, none⟩ = some (.string (rd_T81 l0 x).f2) := (blk_cell hv6 2).trans rfl
         clear hv6
         have H := HH.out
         clear HH
         by_cases c8 : cc = 0
         · rw [if_pos c8] at H
           subst c8
           have HH := am H; clear H
           go_wp2_with (first | (go_at_call 63; refine (impl_valFault.calls k2 _ _ _ 0 _ A7.out).mono ?_; rintro e w9 ⟨rfl, hb⟩; have n_ := am (bz_ HB.out hb); clear HB; have HB := n_; clear n_ hb))
           go_roundg k2
           case measure => have := HK.out; omega
           case rel => exact ⟨wrap64 (x + 1), (by first | rfl | (simp; done)), HH, ⟨by have := HK.out; omega⟩, HB⟩
         · rw [if_neg c8] at H
           have c8b1 : (cc != 0) = true := bne_iff_ne.mpr c8
           obtain rfl := sj H
           go_wp2_with (first | (go_at_call 63; refine (impl_valFault.calls k2 _ _ _ cc _ A7.out).mono ?_; rintro e w9 ⟨rfl, hb⟩; have n_ := am (bz_ HB.out hb); clear HB; have HB := n_; clear n_ hb))
           go_ret
           exact ⟨rfl, HB.out⟩
       · rw [if_neg c6] at H; cases H
     · rw [if_neg c5] at H
       have c5b0 : decide (x < (l0.length : Int)) = false := decide_eq_false c5
       clear c5
       obtain ⟨⟨s1, s2, s3, s4⟩, hv, H⟩ := Option.bind_eq_some_iff.mp H
       have HV := am hv; have HH := am H; clear hv H
       go_upto_region 11 with (first | ((with_reducible refine gate_dst (N := 26) rfl ?_); refine box_event ?hg (N := 26) ?hd (cs := #[.slice A0 l0.length c0, .bool false, .bool false, .bool false]) (t := 98) ?hr ?_; (case hd => rfl); (case hg => rfl); (case hr => first | (go_simp; done) | (go_simp; rfl)); intro g hg w5 hbox hb; have HV5 := am hbox; have HB5 := am (bz_ HB.out hb); have HGV := am (show w.heap.size ≤ g by rw [hg]; exact HB.out.size); clear hbox hb hg))
       go_upto_block 2 with (first | (go_at_call 64; refine (impl_structure_value.calls g l0 false false false 0 0 s1 s2 s3 s4 w _ ⟨A0, c0, HV5.out, HGV.out, HR0.out⟩ HB5.out HV.out).mono ?_; rintro e w8 ⟨rfl, ⟨A8, c8, hb8, _, _⟩, hbl8, _⟩; have HB8 := am hbl8; have HV8 := am hb8; clear hb8 hbl8))
       have h1 : w8.cell? ⟨g, 1, none⟩ = some (.bool s2) := (blk_cell HV8.out 1).trans rfl
       have h2 : w8.cell? ⟨g, 2, none⟩ = some (.bool s3) := (blk_cell HV8.out 2).trans rfl
       have h3 : w8.cell? ⟨g, 3, none⟩ = some (.bool s4) := (blk_cell HV8.out 3).trans rfl
       have H := HH.out
       clear HH
       cases s2 with
       | true =>
        obtain rfl := sj H
        go_wp2
        go_ret
        exact ⟨rfl, HB8.out⟩
       | false =>
        replace H : (if s1 = (l0.length : Int) then (if s3 = true then some 6 else if s4 = true then some 2 else some 0) else some 1) = some r := H
        by_cases c9 : s1 = (l0.length : Int)
        · rw [if_pos c9] at H
          have c9b : (s1 != (l0.length : Int)) = false := bne_eq_false_iff_eq.mpr c9
          clear c9
          cases s3 with
          | true =>
           obtain rfl := sj H
           go_wp2
           go_ret
           exact ⟨rfl, HB8.out⟩
          | false =>
           cases s4 with
           | true =>
            obtain rfl := sj H
            go_wp2
            go_ret
            exact ⟨rfl, HB8.out⟩
           | false =>
            obtain rfl := sj H
            go_wp2
            go_ret
            exact ⟨rfl, HB8.out⟩
        · rw [if_neg c9] at H
          have c9b : (s1 != (l0.length : Int)) = true := bne_iff_ne.mpr c9
          clear c9
          obtain rfl := sj H
          go_wp2
          go_ret
          exact ⟨rfl, HB8.out⟩
 · rw [if_neg c1] at h
   have c1' := Bool.eq_false_iff.mpr c1
   subst c1'
   obtain rfl := sj h
   go_enter Tryd.func31, Tryd.ntmps31
   go_wp2_with (first | (go_at_call 39; refine (impl_in.calls _ _ _ false _ HT.out).mono ?_; rintro e w3 ⟨rfl, hd⟩; have HB := am hd.below; clear hd))
   go_ret
   exact ⟨rfl, HB.out⟩
def impl_Val_89.f (l0 : List (S81)) : Option (List (S81)) := if l0.length < 4398046511104 then some l0 else none
theorem impl_Val_89.calls (A0 : Option Addr) (c0 : Nat) (l0 : List (S81)) (r : List (S81)) (w : World) (hr0 : Kd.C k81 w A0 l0.length l0) (hc0 : l0.length ≤ c0) (h : impl_Val_89.f l0 = some r) :
 Calls Tryd.prog 89 #[.slice A0 l0.length c0] w fun e w' => ∃ v0_ : Value, e = .returned (v0_) ∧ Kd.R k81 81 w' w.heap.size (fun _ => True) v0_ r ∧ Below w.heap.size w w' := by
 have q_ : ∀ (w : World) (a : Option Addr) (n c n' c' : Nat), (binOp .eql 44 (.slice a n c) (.slice none n' c')).run Tryd.prog w = .ok (.bool a.isNone) w := fun w a n c n' c' => Lib.run_eql_slice_nil w _ _ a n c n' c' Tryd.underlying44
 unfold impl_Val_89.f at h
 by_cases c : l0.length < 4398046511104
 · rw [if_pos c] at h
   obtain rfl := sj h
   clear h
   cases A0 with
   | none =>
    have e : l0 = [] := by
     by_cases hp : 0 < l0.length
     · obtain ⟨a, ha, _⟩ := hr0.2.2 hp
       cases ha
     · exact List.length_eq_zero_iff.1 (by omega)
    subst e
    clear hr0
    go_enter Tryd.func89, Tryd.ntmps89
    go_wp2
    go_ret
    exact ⟨_, rfl, Kd.R_nil _ _ _ _ _, Below.refl _ _⟩
   | some ad =>
    have HR0 := am hr0; have HL := am c; clear hr0 c
    go_enter Tryd.func89, Tryd.ntmps89
    go_wp2_with (first | ((with_reducible refine gate_dst (N := 5) rfl ?_); refine Kd.R_lit k81 _ 81 ?hg (N := 5) ?hd (xs := ([] : List (S81))) (inner := []) (ok := fun _ => True) (okp := fun _ => True) ?hr ?hp (fun _ hk => hk) trivial (Below.refl _ _) (Nat.le_refl _) (by simp) ?_; (case hd => rfl); (case hg => rfl); (case hr => first | (go_simp; done) | (go_simp; rfl)); (case hp => exact (Reps.none _ _)); intro v162 w3 ho4 hb hg_ hnew_; clear hg_ hnew_; have HO163 := am (rL ho4 (Nat.le_refl _)); have HB := am hb; clear hb ho4) | ((with_reducible refine gB (b := .append) (xs := #[.tmp 5, .tmp 6]) rfl ?_); at_builtin; refine Kd.R_append_rows k81 (w0 := w) w.heap.size rfl (.tmp 5) (.tmp 6) 44 81 (.agg #[(.int .i64 0), (.int .i64 0), (.string ⟨#[]⟩)]) 32 rfl Tryd.underlying44 info81 rfl (by decide) (by omega) v162 ([] : List (S81)) l0 _ _ _ (fun _ => True) (fun _ => False) rfl rfl ?aO ?aR (fun _ _ h => h) (fun _ h => h.elim) ?aF ?aB ?aS ?aL ?_; (case aR => exact pC (Kd.C_below HR0.out HB.out)); (case aB => exact pB); (case aF => exact (fun _ _ => trivial)); (case aO => exact (pR HO163)); (case aS => exact (bs_ pB)); (case aL => have := HL.out; simp; omega); intro v165 w5 ho hb hg hat; have n_ := t2 (hb) (ho); clear HB HO163; obtain ⟨HB, HO166⟩ := n_; clear ho hb hg hat))
    go_ret
    exact ⟨_, rfl, HO166.out, HB.out⟩
 · rw [if_neg c] at h; cases h
def impl_entry.l0 : Nat → List S81 → ByteArray → Int → Bool → Bool → Bool → Int → Int → Option (List S81)
 | 0, _, _, _, _, _, _, _, _ => none
 | k + 1, l, nm, num, f, t, m, a, n => if n < num then (if 0 ≤ a ∧ a < l.length ∧ l.length ≤ 1000000 ∧ 0 ≤ n ∧ n ≤ 1000000 then ((impl_structure_value.f l f t m (a + 1) 0).bind fun r => if ((rd_T81 l a).f2).toList = nm.toList then (if a + 1 < r.1 ∧ r.1 ≤ l.length then some ((l.take r.1.toNat).drop (a + 1).toNat) else none) else impl_entry.l0 k l nm num r.2.1 r.2.2.1 r.2.2.2 r.1 (n + 1)) else none) else some []
def impl_entry.f (k : Nat) (l0 : List S81) (a1 : ByteArray) : Option (List S81) := if 0 < (l0.length : Int) then impl_entry.l0 k l0 a1 (rd_T81 l0 0).f1 false false false 1 0 else none
theorem impl_entry.mono_l : ∀ k l nm num f t m a n, LeO (impl_entry.l0 k l nm num f t m a n) (impl_entry.l0 (k + 1) l nm num f t m a n)
 | 0 => fun _ _ _ _ _ _ _ _ r h => by simp [impl_entry.l0] at h
 | k + 1 => by
  intro l nm num f t m a n r h
  unfold impl_entry.l0 at h ⊢
  by_cases c1 : n < num
  · rw [if_pos c1] at h ⊢
    by_cases c2 : 0 ≤ a ∧ a < l.length ∧ l.length ≤ 1000000 ∧ 0 ≤ n ∧ n ≤ 1000000
    · rw [if_pos c2] at h ⊢
      obtain ⟨q, h1, h2⟩ := Option.bind_eq_some_iff.mp h
      refine Option.bind_eq_some_iff.mpr ⟨q, h1, ?_⟩
      by_cases c3 : ((rd_T81 l a).f2).toList = nm.toList
      · rw [if_pos c3] at h2 ⊢; exact h2
      · rw [if_neg c3] at h2 ⊢; exact impl_entry.mono_l k _ _ _ _ _ _ _ _ r h2
    · rw [if_neg c2] at h; cases h
  · rw [if_neg c1] at h ⊢; exact h
theorem impl_entry.mono : ∀ a0 a1 k, LeO (impl_entry.f k a0 a1) (impl_entry.f (k + 1) a0 a1) := by
 intro a0 a1 k r h
 unfold impl_entry.f at h ⊢
 by_cases c : 0 < (a0.length : Int)
 · rw [if_pos c] at h ⊢; exact impl_entry.mono_l k _ _ _ _ _ _ _ _ r h
 · rw [if_neg c] at h; cases h
set_option maxHeartbeats 4000000 in
set_option maxRecDepth 100000 in
theorem impl_entry.calls (k : Nat) (A0 : Option Addr) (c0 : Nat) (l0 : List (S81)) (a1 : ByteArray) (r : List (S81)) (w : World) (hr0 : Kd.C k81 w A0 l0.length l0) (hc0 : l0.length ≤ c0) (h : impl_entry.f k l0 a1 = some r) :
 Calls Tryd.prog 60 #[.slice A0 l0.length c0, .string a1] w fun e w' => ∃ v0_ : Value, e = .returned (v0_) ∧ Kd.R k81 81 w' w.heap.size (fun _ => True) v0_ r ∧ (r = [] → v0_ = .slice none 0 0) ∧ Below w.heap.size w w' := by
 have hu129 := Tryd.underlying81
 have hu134 := Tryd.underlying98
 have HR0 := am hr0; have HC0 := am hc0; clear hr0 hc0
 unfold impl_entry.f at h
 by_cases c1 : 0 < (l0.length : Int)
 · rw [if_pos c1] at h
   have HC2 := am h; clear h
   have HB := am (Below.refl w.heap.size w)
   obtain ⟨ad, e, hx0, hx1, hx2⟩ := at_T81 HR0.out 0 (by omega) c1
   cases e
   have c1b0 : decide (0 < (l0.length : Int)) = true := dt c1
   have c1b1 : decide (0 < l0.length) = true := dt (by omega)
   have p5 : (0 ≤ (0 : Int)) = True := eq_true (by omega)
   have q5 := eq_true c1
   have qi5 : (0 < l0.length) = True := eq_true (by omega)
   (try rw [z0, zm, az] at hx1); have HX1 := am hx1; clear c1 hx0 hx1 hx2
   go_enter Tryd.func60, Tryd.ntmps60
   go_wp2_with (first | ((with_reducible refine gate_dst (N := 10) rfl ?_); refine box_event ?hg (N := 10) ?hd (cs := #[.slice (some ad) l0.length c0, .bool false, .bool false, .bool false]) (t := 98) ?hr ?_; (case hd => rfl); (case hg => rfl); (case hr => first | (go_simp; done) | (go_simp; rfl)); intro g hg w5 hbox hb; have HS := am (show IsS98 w w5 g l0 false false false from ⟨some ad, c0, hbox, by rw [hg]; exact Nat.le_refl _, HR0.out⟩); have HB5 := am hb; clear HB; have HB := HB5; clear HB5 hbox hb hg; have hx1 := (HB.out.cell (World.block_lt_of_cell? w _ HX1.out)).trans HX1.out))
   clear hx1
   go_loopg [6, 15] k (fun kq v6 v15 w' => ∃ (a n : Int) (f t m : Bool), v6 = .int .i64 a ∧ v15 = .int .i64 n ∧ Aside0 (impl_entry.l0 kq l0 a1 (rd_T81 l0 0).f1 f t m a n = some r) ∧ Aside0 (kq ≤ k) ∧ Aside0 (IsS98 w w' g l0 f t m) ∧ Aside0 (Below w.heap.size w w'))
   case atStart => exact ⟨1, 0, false, false, false, rfl, rfl, HC2, ⟨Nat.le_refl _⟩, HS, HB⟩
   case round =>
    clear HC2 HB HS
    obtain ⟨a, n, f, t, m, rfl, rfl, HA, HK, HS, HB⟩ := hrel
    cases gk with
    | zero => exact absurd HA.out (by simp [impl_entry.l0])
    | succ k2 =>
     have H := HA.out
     clear HA
     simp only [impl_entry.l0] at H
     by_cases c5 : n < (rd_T81 l0 0).f1
     · rw [if_pos c5] at H
       have c5b0 : decide (n < (rd_T81 l0 0).f1) = true := dt c5
       clear c5
       by_cases c6 : 0 ≤ a ∧ a < l0.length ∧ l0.length ≤ 1000000 ∧ 0 ≤ n ∧ n ≤ 1000000
       · rw [if_pos c6] at H
         have hwa : wrap64 (a + 1) = a + 1 := by unfold wrap64; omega
         have hwn : wrap64 (n + 1) = n + 1 := by unfold wrap64; omega
         have p6 := eq_true c6.1
         have q6 := eq_true c6.2.1
         obtain ⟨ad2, e2, hy0, hy1, hy2⟩ := at_T81 HR0.out a c6.1 c6.2.1
         obtain rfl : ad = ad2 := by injection e2
         have HY2 := am hy2; have HG := am c6; clear c6 hy0 hy1 hy2 e2
         obtain ⟨⟨s1, s2, s3, s4⟩, hv, H⟩ := Option.bind_eq_some_iff.mp H
         have HV := am hv; clear hv
         go_upto_region 5 with (first | (go_at_call 64; (try rw [i64_w]); (try rw [hwa]); refine (impl_structure_value.calls g l0 f t m (a + 1) 0 s1 s2 s3 s4 w _ HS.out HB.out HV.out).mono ?_; rintro e w8 ⟨rfl, hs8, hb8, _⟩; have HS8 := am hs8; have HB8 := am hb8; clear HS HB hs8 hb8; have HS := HS8; have HB := HB8; clear HS8 HB8))
         have hy2 := (HB.out.cell (World.block_lt_of_cell? w _ HY2.out)).trans HY2.out
         by_cases c8 : ((rd_T81 l0 a).f2).toList = a1.toList
         · replace H : (if ((rd_T81 l0 a).f2).toList = a1.toList then (if a + 1 < s1 ∧ s1 ≤ l0.length then some ((l0.take s1.toNat).drop (a + 1).toNat) else none) else impl_entry.l0 k2 l0 a1 (rd_T81 l0 0).f1 s2 s3 s4 s1 (n + 1)) = some r := H
           rw [if_pos c8] at H
           have c8b0 : (((rd_T81 l0 a).f2).toList == a1.toList) = true := beq_iff_eq.mpr c8
           clear c8
           by_cases c9 : a + 1 < s1 ∧ s1 ≤ l0.length
           · rw [if_pos c9] at H
             obtain ⟨y, hy⟩ : ∃ y, y = (l0.take s1.toNat).drop (a + 1).toNat := ⟨_, rfl⟩
             rw [← hy] at H
             obtain rfl := sj H
             obtain ⟨i017, hi017, _, hsz17, _⟩ := info_parts info81
             have hg1 := HG.out
             have hcut17 := cut_mid (P := Tryd.prog) 44 81 .i64 .i64 Tryd.underlying44 hi017 3 hsz17 (some ad) l0.length c0 (a + 1) s1 (by omega) (by omega) c9.2 HC0.out
             have hr17 := Kd.C_mid (lo := (a + 1).toNat) (hi := s1.toNat) (c := c0) HR0.out (by omega) (by omega) HC0.out
             obtain ⟨A17, hA17⟩ : ∃ A1, A1 = (if c0 = (a + 1).toNat then (some ad) else ((some ad) : Option Addr).map (·.add ((a + 1).toNat * 3))) := ⟨_, rfl⟩
             obtain ⟨c17, hc17⟩ : ∃ c1, c1 = c0 - (a + 1).toNat := ⟨_, rfl⟩
             have hyl : y.length = s1.toNat - (a + 1).toNat := by rw [hy, List.length_drop, List.length_take]; omega
             rw [← hy] at hr17
             replace hr17 : Kd.C k81 w A17 y.length y := by rw [hA17]; exact hr17
             rw [← hyl, ← hA17, ← hc17] at hcut17
             have HR17 := am hr17
             have hc0' := HC0.out
             have HC17 := am (show y.length ≤ c17 by rw [hyl, hc17]; omega)
             have HN := am (show y ≠ [] by intro e; rw [e] at hyl; simp at hyl; omega)
             have HCL := am (show impl_Val_89.f y = some y by unfold impl_Val_89.f; rw [if_pos (by rw [hyl]; omega)])
             clear hg1 hi017 hsz17 hr17 hA17 hc17 hy hyl hc0' c9 H
             go_wp2_with (first | (go_at_call 89; refine (impl_Val_89.calls _ _ _ _ _ (Kd.C_below HR17.out HB.out) HC17.out HCL.out).mono ?_; rintro e w9 ⟨v9, rfl, ho9, hb9⟩; have HO := am (rL ho9 HB.out.size); have n_ := am (bz_ HB.out hb9); clear HB; have HB := n_; clear n_ ho9 hb9))
             go_ret
             exact ⟨_, rfl, HO.out, fun e => absurd e HN.out, HB.out⟩
           · rw [if_neg c9] at H; cases H
         · replace H : (if ((rd_T81 l0 a).f2).toList = a1.toList then (if a + 1 < s1 ∧ s1 ≤ l0.length then some ((l0.take s1.toNat).drop (a + 1).toNat) else none) else impl_entry.l0 k2 l0 a1 (rd_T81 l0 0).f1 s2 s3 s4 s1 (n + 1)) = some r := H
           rw [if_neg c8] at H
           have c8b0 : (((rd_T81 l0 a).f2).toList == a1.toList) = false := beq_eq_false_iff_ne.mpr c8
           have HH := am H; clear c8 H
           go_wp2
           go_roundg k2
           case measure => have := HK.out; omega
           case rel => exact ⟨s1, n + 1, s2, s3, s4, rfl, (by first | rfl | (simp [hwn]; done)), HH, ⟨by have := HK.out; omega⟩, HS, HB⟩
       · rw [if_neg c6] at H; cases H
     · rw [if_neg c5] at H
       have c5b0 : decide (n < (rd_T81 l0 0).f1) = false := decide_eq_false c5
       obtain rfl := sj H
       clear c5 H
       go_wp2
       go_ret
       exact ⟨_, rfl, Kd.R_nil _ _ _ _ _, (by first | exact rfl | exact fun _ => rfl), HB.out⟩
 · rw [if_neg c1] at h; cases h
def impl_MapEntry.f (k : Nat) (l0 : List (S81)) (a1 : ByteArray) : Option (Int × (List (S81))) := (impl_ValsFault.f k l0).bind fun t => if t = 0 then (if 0 < (l0.length : Int) then (if (rd_T81 l0 0).f0 = 6 then ((impl_entry.f k l0 a1).bind fun y => if y.length = 0 then some (4, []) else some (0, y)) else some (1, [])) else none) else some (t, [])
theorem impl_MapEntry.mono : ∀ a0 a1 k, LeO (impl_MapEntry.f k a0 a1) (impl_MapEntry.f (k + 1) a0 a1) := by
 intro a0 a1 k r h
 unfold impl_MapEntry.f at h ⊢
 obtain ⟨t, h1, h2⟩ := Option.bind_eq_some_iff.mp h
 refine Option.bind_eq_some_iff.mpr ⟨t, impl_ValsFault.mono _ _ _ h1, ?_⟩
 by_cases c1 : t = 0
 · rw [if_pos c1] at h2 ⊢
   by_cases c2 : 0 < (a0.length : Int)
   · rw [if_pos c2] at h2 ⊢
     by_cases c3 : (rd_T81 a0 0).f0 = 6
     · rw [if_pos c3] at h2 ⊢
       obtain ⟨y, h3, h4⟩ := Option.bind_eq_some_iff.mp h2
       exact Option.bind_eq_some_iff.mpr ⟨y, impl_entry.mono _ _ _ _ h3, h4⟩
     · rw [if_neg c3] at h2 ⊢; exact h2
   · rw [if_neg c2] at h2; cases h2
 · rw [if_neg c1] at h2 ⊢; exact h2
set_option maxHeartbeats 4000000 in
set_option maxRecDepth 100000 in
theorem impl_MapEntry.calls (k : Nat) (A0 : Option Addr) (c0 : Nat) (l0 : List (S81)) (a1 : ByteArray) (r1 : Int) (r2 : List (S81)) (w : World) (hr0 : Kd.C k81 w A0 l0.length l0) (hc0 : l0.length ≤ c0) (h : impl_MapEntry.f k l0 a1 = some (r1, r2)) :
 Calls Tryd.prog 28 #[.slice A0 l0.length c0, .string a1] w fun e w' => ∃ v1_ : Value, e = .returned (.agg #[.int .i64 r1, v1_]) ∧ Kd.R k81 81 w' w.heap.size (fun _ => True) v1_ r2 ∧ Below w.heap.size w w' := by
 have hu83 := Tryd.underlying58
 have q_ : ∀ (w : World) (a : Option Addr) (n c n' c' : Nat), (binOp .eql 44 (.slice a n c) (.slice none n' c')).run Tryd.prog w = .ok (.bool a.isNone) w := fun w a n c n' c' => Lib.run_eql_slice_nil w _ _ a n c n' c' Tryd.underlying44
 have HR0 := am hr0; have HC0 := am hc0; clear hr0 hc0
 have HB := am (Below.refl w.heap.size w)
 unfold impl_MapEntry.f at h
 obtain ⟨t, ht, h⟩ := Option.bind_eq_some_iff.mp h
 have HT := am ht; clear ht
 by_cases c1 : t = 0
 · rw [if_pos c1] at h
   subst c1
   by_cases c2 : 0 < (l0.length : Int)
   · rw [if_pos c2] at h
     obtain ⟨ad, e, hx0, hx1, hx2⟩ := at_T81 HR0.out 0 (by omega) c2
     cases e
     have c2b0 : decide (0 < (l0.length : Int)) = true := dt c2
     have c2b1 : decide (0 < l0.length) = true := dt (by omega)
     have p5 : (0 ≤ (0 : Int)) = True := eq_true (by omega)
     have q5 := eq_true c2
     have qi5 : (0 < l0.length) = True := eq_true (by omega)
     (try rw [z0, zm, az] at hx0); have HX0 := am hx0; clear c2 hx0 hx1 hx2
     by_cases c3 : (rd_T81 l0 0).f0 = 6
     · rw [if_pos c3] at h
       have c3b : ((rd_T81 l0 0).f0 != 6) = false := bne_eq_false_iff_eq.mpr c3
       clear c3
       obtain ⟨y, hy, h⟩ := Option.bind_eq_some_iff.mp h
       have HY := am hy; clear hy
       go_enter Tryd.func28, Tryd.ntmps28
       go_upto_region 7 with (first | ((with_reducible refine gate_dst (N := 4) rfl ?_); refine box_event ?hg (N := 4) ?hd (cs := #[.int .i64 0, .slice none 0 0]) (t := 58) ?hr ?_; (case hd => rfl); (case hg => rfl); (case hr => first | (go_simp; done) | (go_simp; rfl)); intro gb hg w4 hbox hb; have n0_ := am (bz_ HB.out hb); have BK := am hbox; have GE := am (show w.heap.size ≤ gb by rw [hg]; exact HB.out.size); clear HB; have HB := n0_; clear n0_ hb hbox hg) | (go_at_call 31; refine (impl_ValsFault.calls k _ _ l0 0 _ (Kd.C_below HR0.out HB.out) HC0.out HT.out).mono ?_; rintro e w6 ⟨rfl, hb⟩; have BK2 := am (blk_below BK.out hb); have n0_ := am (bz_ HB.out hb); clear HB BK; have HB := n0_; have BK := BK2; clear n0_ BK2 hb; have hx0 := (HB.out.cell (World.block_lt_of_cell? w _ HX0.out)).trans HX0.out) | (go_at_call 60; refine (impl_entry.calls k _ _ l0 a1 y _ (Kd.C_below HR0.out HB.out) HC0.out HY.out).mono ?_; rintro e w9 ⟨v9, rfl, ho9, hn9, hb9⟩; have HO := am (rL ho9 HB.out.size); have HN := am hn9; have BK2 := am (blk_below BK.out hb9); have n0_ := am (bz_ HB.out hb9); clear HB BK hx0; have HB := n0_; have BK := BK2; clear n0_ BK2 ho9 hb9 hn9))
       have hcz0 : w9.cell? ⟨gb, 0, none⟩ = some (.int .i64 0) := (blk_cell BK.out 0).trans rfl
       have hcz1 : w9.cell? ⟨gb, 1, none⟩ = some (.slice none 0 0) := (blk_cell BK.out 1).trans rfl
       have hfz0 := blk_frozen BK.out 0
       have hfz1 := blk_frozen BK.out 1
       by_cases c4 : y.length = 0
       · rw [if_pos c4] at h
         simp only [Option.some.injEq, Prod.mk.injEq] at h
         obtain ⟨rfl, rfl⟩ := h
         obtain rfl := List.eq_nil_of_length_eq_zero c4
         obtain rfl := HN.out rfl
         clear c4 HN
         go_wp2
         refine bodyPost_ret (results_cell_row rfl _ _ gb 58 #[.int .i64 4, .slice none 0 0] (0, 0) _ rfl (by refine blk_put (cs := #[.int .i64 4, .slice none 0 0]) ?_ 1 _ rfl; refine blk_put (cs := #[.int .i64 0, .slice none 0 0]) ?_ 0 _ rfl; exact BK.out) Tryd.underlying58 rfl (by kernel_rfl)) rfl ?_
         exact ⟨_, rfl, Kd.R_nil _ _ _ _ _, below_set (below_set HB.out GE.out) GE.out⟩
       · rw [if_neg c4] at h
         simp only [Option.some.injEq, Prod.mk.injEq] at h
         obtain ⟨rfl, rfl⟩ := h
         obtain ⟨go, co, eo, gbo, glo, _⟩ := Kd.R_form HO.out (by omega)
         subst eo
         clear c4 HN
         go_wp2
         refine bodyPost_ret (results_cell_row rfl _ _ gb 58 #[.int .i64 0, .slice (some ⟨go, 0, none⟩) y.length co] (0, 0) _ rfl (by refine blk_put (cs := #[.int .i64 0, .slice none 0 0]) ?_ 1 _ rfl; refine blk_put (cs := #[.int .i64 0, .slice none 0 0]) ?_ 0 _ rfl; exact BK.out) Tryd.underlying58 rfl (by kernel_rfl)) rfl ?_
         exact ⟨_, rfl, Kd.R_mono (Kd.R_far (p := ⟨gb, 1, none⟩) (Kd.R_far (p := ⟨gb, 0, none⟩) (Kd.R_types HO.out BK.out (by decide)) (fun _ hk => hk.2) _) (fun _ hk => hk.2) _) (fun _ hk => trivial), below_set (below_set HB.out GE.out) GE.out⟩
     · rw [if_neg c3] at h
       have c3b : ((rd_T81 l0 0).f0 != 6) = true := bne_iff_ne.mpr c3
       clear c3
       simp only [Option.some.injEq, Prod.mk.injEq] at h
       obtain ⟨rfl, rfl⟩ := h
       go_enter Tryd.func28, Tryd.ntmps28
       go_wp2_with (first | ((with_reducible refine gate_dst (N := 4) rfl ?_); refine box_event ?hg (N := 4) ?hd (cs := #[.int .i64 0, .slice none 0 0]) (t := 58) ?hr ?_; (case hd => rfl); (case hg => rfl); (case hr => first | (go_simp; done) | (go_simp; rfl)); intro gb hg w4 hbox hb; have n0_ := am (bz_ HB.out hb); have BK := am hbox; have GE := am (show w.heap.size ≤ gb by rw [hg]; exact HB.out.size); clear HB; have HB := n0_; clear n0_ hb hbox hg) | (go_at_call 31; refine (impl_ValsFault.calls k _ _ l0 0 _ (Kd.C_below HR0.out HB.out) HC0.out HT.out).mono ?_; rintro e w6 ⟨rfl, hb⟩; have BK2 := am (blk_below BK.out hb); have n0_ := am (bz_ HB.out hb); clear HB BK; have HB := n0_; have BK := BK2; clear n0_ BK2 hb; have hx0 := (HB.out.cell (World.block_lt_of_cell? w _ HX0.out)).trans HX0.out; have hcz0 : w6.cell? ⟨gb, 0, none⟩ = some (.int .i64 0) := (blk_cell BK.out 0).trans rfl; have hcz1 : w6.cell? ⟨gb, 1, none⟩ = some (.slice none 0 0) := (blk_cell BK.out 1).trans rfl; have hfz0 := blk_frozen BK.out 0; have hfz1 := blk_frozen BK.out 1))
       refine bodyPost_ret (results_cell_row rfl _ _ gb 58 #[.int .i64 1, .slice none 0 0] (0, 0) _ rfl (by refine blk_put (cs := #[.int .i64 1, .slice none 0 0]) ?_ 1 _ rfl; refine blk_put (cs := #[.int .i64 0, .slice none 0 0]) ?_ 0 _ rfl; exact BK.out) Tryd.underlying58 rfl (by kernel_rfl)) rfl ?_
       exact ⟨_, rfl, Kd.R_nil _ _ _ _ _, below_set (below_set HB.out GE.out) GE.out⟩
   · rw [if_neg c2] at h; cases h
 · rw [if_neg c1] at h
   have c1b : (t != 0) = true := bne_iff_ne.mpr c1
   clear c1
   simp only [Option.some.injEq, Prod.mk.injEq] at h
   obtain ⟨rfl, rfl⟩ := h
   go_enter Tryd.func28, Tryd.ntmps28
   go_wp2_with (first | ((with_reducible refine gate_dst (N := 4) rfl ?_); refine box_event ?hg (N := 4) ?hd (cs := #[.int .i64 0, .slice none 0 0]) (t := 58) ?hr ?_; (case hd => rfl); (case hg => rfl); (case hr => first | (go_simp; done) | (go_simp; rfl)); intro gb hg w4 hbox hb; have n0_ := am (bz_ HB.out hb); have BK := am hbox; have GE := am (show w.heap.size ≤ gb by rw [hg]; exact HB.out.size); clear HB; have HB := n0_; clear n0_ hb hbox hg) | (go_at_call 31; refine (impl_ValsFault.calls k _ _ l0 t _ (Kd.C_below HR0.out HB.out) HC0.out HT.out).mono ?_; rintro e w6 ⟨rfl, hb⟩; have BK2 := am (blk_below BK.out hb); have n0_ := am (bz_ HB.out hb); clear HB BK; have HB := n0_; have BK := BK2; clear n0_ BK2 hb; have hcz0 : w6.cell? ⟨gb, 0, none⟩ = some (.int .i64 0) := (blk_cell BK.out 0).trans rfl; have hcz1 : w6.cell? ⟨gb, 1, none⟩ = some (.slice none 0 0) := (blk_cell BK.out 1).trans rfl; have hfz0 := blk_frozen BK.out 0; have hfz1 := blk_frozen BK.out 1))
   refine bodyPost_ret (results_cell_row rfl _ _ gb 58 #[.int .i64 t, .slice none 0 0] (0, 0) _ rfl (by refine blk_put (cs := #[.int .i64 t, .slice none 0 0]) ?_ 1 _ rfl; refine blk_put (cs := #[.int .i64 0, .slice none 0 0]) ?_ 0 _ rfl; exact BK.out) Tryd.underlying58 rfl (by kernel_rfl)) rfl ?_
   exact ⟨_, rfl, Kd.R_nil _ _ _ _ _, below_set (below_set HB.out GE.out) GE.out⟩
def spec_l1In.f (a0 : Int) (a1 : Int) (a2 : Int) : Option (Bool) := if a0 ≥ a1 then (some (decide (a0 ≤ a2))) else (some false)
theorem spec_l1In.calls (a0 : Int) (a1 : Int) (a2 : Int) (r : Bool) (w : World) (h : spec_l1In.f a0 a1 a2 = some r) :
 Calls Tryd.prog 43 #[.int .i64 a0, .int .i64 a1, .int .i64 a2] w fun e w' => e = .returned (.bool r) ∧ Drawn0 w w' := by
 have H : (if a0 ≥ a1 then (some (decide (a0 ≤ a2))) else (some false)) = some r := h
 clear h
 by_cases c4 : a0 ≥ a1
 · rw [if_pos c4] at H
   have c4b0 : decide (a1 ≤ a0) = true := dt c4
   clear c4
   obtain rfl := sj H
   go_enter Tryd.func43, Tryd.ntmps43
   go_wp2
   go_ret
   exact ⟨by first | rfl | (simp; done) | (simp [*]; done), pW⟩
 · rw [if_neg c4] at H
   have c4b0 : decide (a1 ≤ a0) = false := decide_eq_false c4
   clear c4
   obtain rfl := sj H
   go_enter Tryd.func43, Tryd.ntmps43
   go_wp2
   go_ret
   exact ⟨by first | rfl | (simp; done) | (simp [*]; done), pW⟩
def spec_l8Num_in.j0 : Nat → List (S81) → Int → Bool → Option (Bool)
 | 0, _, _, _ => none
 | k + 1, x0, x6, x7 => if x7 = true then (if 0 < (x0.length : Int) then (some (((rd_T81 x0 0).f1) == 0)) else (none)) else (if x6 = 2 then (if 0 < (x0.length : Int) then ((spec_l1In.f ((rd_T81 x0 0).f1) 0 1).bind fun t287 => (some t287)) else (none)) else (if x6 = 3 then (if 0 < (x0.length : Int) then ((spec_l1In.f ((rd_T81 x0 0).f1) 0 2147483646).bind fun t289 => (some t289)) else (none)) else (if 0 < (x0.length : Int) then ((spec_l1In.f ((rd_T81 x0 0).f1) 0 20).bind fun t291 => (some t291)) else (none))))
def spec_l8Num_in.f (k : Nat) (l0 : List (S81)) : Option (Bool) := if 0 < (l0.length : Int) then (if ((rd_T81 l0 0).f0) = 1 then (spec_l8Num_in.j0 k l0 ((rd_T81 l0 0).f0) (((rd_T81 l0 0).f0) == 1)) else (spec_l8Num_in.j0 k l0 ((rd_T81 l0 0).f0) (((rd_T81 l0 0).f0) == 4))) else (none)
theorem spec_l8Num_in.mono_l : ∀ k, (∀ y0 y1 y2, LeO (spec_l8Num_in.j0 k y0 y1 y2) (spec_l8Num_in.j0 (k + 1) y0 y1 y2))
 | 0 => fun _ _ _ r h => by simp [spec_l8Num_in.j0] at h
 | k + 1 => by
  have ih0 := spec_l8Num_in.mono_l k
  · intro y0 y1 y2
    unfold spec_l8Num_in.j0
    repeat' with_reducible first | exact ih0 _ _ _ | exact LeO.refl _ | exact LeO.none _ | refine LeO.ite ?_ ?_ | refine LeO.bind ?_ (fun _ => ?_)
theorem spec_l8Num_in.mono : ∀ a0 k, LeO (spec_l8Num_in.f k a0) (spec_l8Num_in.f (k + 1) a0) := by
 intro a0 k
 have ih0 := spec_l8Num_in.mono_l k
 unfold spec_l8Num_in.f
 repeat' with_reducible first | exact ih0 _ _ _ | exact LeO.refl _ | exact LeO.none _ | refine LeO.ite ?_ ?_ | refine LeO.bind ?_ (fun _ => ?_)
theorem spec_l8Num_in.calls (k : Nat) (A0 : Option Addr) (c0 : Nat) (l0 : List (S81)) (r : Bool) (w : World) (hr0 : Kd.C k81 w A0 l0.length l0) (hc0 : l0.length ≤ c0) (h : spec_l8Num_in.f k l0 = some r) :
 Calls Tryd.prog 99 #[.pointer A0] w fun e w' => e = .returned (.bool r) ∧ Below w.heap.size w w' := by
 have HR0 := am hr0; have HC0 := am hc0; clear hr0 hc0
 have HB := am (Below.refl w.heap.size w)
 have H : (if 0 < (l0.length : Int) then (if ((rd_T81 l0 0).f0) = 1 then (spec_l8Num_in.j0 k l0 ((rd_T81 l0 0).f0) (((rd_T81 l0 0).f0) == 1)) else (spec_l8Num_in.j0 k l0 ((rd_T81 l0 0).f0) (((rd_T81 l0 0).f0) == 4))) else (none)) = some r := h
 clear h
 by_cases c2 : 0 < (l0.length : Int)
 · rw [if_pos c2] at H
   have c2b0 : decide (0 < (l0.length : Int)) = true := dt c2
   have c2b1 : decide (0 < l0.length) = true := dt (by omega)
   clear c2; have HC3 := am H; clear H
   have p284 : 0 ≤ (0 : Int) := (by omega)
   have q284 : 0 < (l0.length : Int) := pD
   obtain ⟨ad284, e284, hx284_0, hx284_1, hx284_2⟩ := at_T81 HR0.out 0 p284 q284
   cases e284
   have qi284 : (0 < l0.length) = True := eq_true (by omega)
   (try rw [z0, zm, az] at hx284_0); (try rw [z0, zm, az] at hx284_1); (try rw [z0, zm, az] at hx284_2); replace p284 := eq_true p284; replace q284 := eq_true q284
   go_enter Tryd.func99, Tryd.ntmps99
   go_upto_if 7 with (fail)
   go_cut [7] (fun v7 wc => ∃ (kq : Nat) (x7_2 : Bool), v7 = .bool x7_2 ∧ Aside0 (spec_l8Num_in.j0 kq l0 ((rd_T81 l0 0).f0) x7_2 = some r) ∧ Aside0 (kq ≤ k) ∧ Aside0 (Below w.heap.size w wc))
   case first =>
    have H := HC3.out
    clear HC3
    by_cases c4 : ((rd_T81 l0 0).f0) = 1
    · rw [if_pos c4] at H
      have c4b0 : (((rd_T81 l0 0).f0) == 1) = true := beq_iff_eq.mpr c4
      have c4b1 : (((rd_T81 l0 0).f0) != 1) = false := bne_eq_false_iff_eq.mpr c4
      clear c4
      (first | rw [c4b0] | (simp only [i64_w, i32_w]; rw [c4b0]) | skip)
      have H' := am H
      clear H
      go_wp2
      go_meet
      case rel => exact ⟨_, ((((rd_T81 l0 0).f0) == 1)), pF, H', ⟨by first | omega | exact Nat.le_refl _⟩, ⟨pB⟩⟩
    · rw [if_neg c4] at H
      have c4b0 : (((rd_T81 l0 0).f0) == 1) = false := beq_eq_false_iff_ne.mpr c4
      have c4b1 : (((rd_T81 l0 0).f0) != 1) = true := bne_iff_ne.mpr c4
      (first | rw [c4b0] | (simp only [i64_w, i32_w]; rw [c4b0]) | skip)
      have H' := am H
      clear H
      go_wp2
      go_meet
      case rel => exact ⟨_, ((((rd_T81 l0 0).f0) == 4)), pF, H', ⟨by first | omega | exact Nat.le_refl _⟩, ⟨pB⟩⟩
   case rest =>
    clear HC3; (try clear c2); (try clear c2b0); (try clear c2b1); (try clear hx284_0); (try clear hx284_1); (try clear hx284_2); (try clear p284); (try clear q284)
    obtain ⟨kq, x7_2, rfl, HA, HJ2, HB⟩ := hcut
    cases kq with
    | zero => exact absurd HA.out (by simp [spec_l8Num_in.j0])
    | succ kj2 =>
     have H := HA.out
     clear HA
     simp only [spec_l8Num_in.j0] at H
     by_cases c5 : x7_2 = true
     · subst c5
       have H1 : (if 0 < (l0.length : Int) then (some (((rd_T81 l0 0).f1) == 0)) else (none)) = some r := by rw [if_pos rfl] at H; exact H
       clear H; have H := H1; clear H1
       by_cases c6 : 0 < (l0.length : Int)
       · rw [if_pos c6] at H
         have c6b0 : decide (0 < (l0.length : Int)) = true := dt c6
         have c6b1 : decide (0 < l0.length) = true := dt (by omega)
         clear c6
         obtain rfl := sj H
         have p285 : 0 ≤ (0 : Int) := (by omega)
         have q285 : 0 < (l0.length : Int) := pD
         (try clear hx284_0); (try clear hx284_1); (try clear hx284_2); (try clear hHeld)
         obtain ⟨ad285, e285, hx285_0, hx285_1, hx285_2⟩ := at_T81 HR0.out 0 p285 q285
         obtain rfl : ad284 = ad285 := (by injection e285)
         have qi285 : (0 < l0.length) = True := eq_true (by omega)
         (try rw [z0, zm, az] at hx285_0); (try rw [z0, zm, az] at hx285_1); (try rw [z0, zm, az] at hx285_2); replace hx285_0 := cb HB hx285_0; replace hx285_1 := cb HB hx285_1; replace hx285_2 := cb HB hx285_2; replace p285 := eq_true p285; replace q285 := eq_true q285
         go_wp2
         go_ret
         exact ⟨pE, pB⟩
       · rw [if_neg c6] at H
         exact absurd H (by simp)
     · replace c5 := Bool.eq_false_iff.mpr c5
       subst c5
       have H1 : (if ((rd_T81 l0 0).f0) = 2 then (if 0 < (l0.length : Int) then ((spec_l1In.f ((rd_T81 l0 0).f1) 0 1).bind fun t287 => (some t287)) else (none)) else (if ((rd_T81 l0 0).f0) = 3 then (if 0 < (l0.length : Int) then ((spec_l1In.f ((rd_T81 l0 0).f1) 0 2147483646).bind fun t289 => (some t289)) else (none)) else (if 0 < (l0.length : Int) then ((spec_l1In.f ((rd_T81 l0 0).f1) 0 20).bind fun t291 => (some t291)) else (none)))) = some r := by rw [if_neg (show ¬ (false = true) by decide)] at H; exact H
       clear H; have H := H1; clear H1
       by_cases c7 : ((rd_T81 l0 0).f0) = 2
       · rw [if_pos c7] at H
         have c7b0 : (((rd_T81 l0 0).f0) == 2) = true := beq_iff_eq.mpr c7
         have c7b1 : (((rd_T81 l0 0).f0) != 2) = false := bne_eq_false_iff_eq.mpr c7
         clear c7
         by_cases c8 : 0 < (l0.length : Int)
         · rw [if_pos c8] at H
           have c8b0 : decide (0 < (l0.length : Int)) = true := dt c8
           have c8b1 : decide (0 < l0.length) = true := dt (by omega)
           clear c8
           obtain ⟨t287, A90, H⟩ := bO H
           replace H : (some t287) = some r := H
           have A9 := am A90; clear A90
           obtain rfl := sj H
           have p286 : 0 ≤ (0 : Int) := (by omega)
           have q286 : 0 < (l0.length : Int) := pD
           obtain ⟨ad286, e286, hx286_0, hx286_1, hx286_2⟩ := at_T81 HR0.out 0 p286 q286
           obtain rfl : ad284 = ad286 := (by injection e286)
           have qi286 : (0 < l0.length) = True := eq_true (by omega)
           (try rw [z0, zm, az] at hx286_0); (try rw [z0, zm, az] at hx286_1); (try rw [z0, zm, az] at hx286_2); replace hx286_0 := cb HB hx286_0; replace hx286_1 := cb HB hx286_1; replace hx286_2 := cb HB hx286_2; replace p286 := eq_true p286; replace q286 := eq_true q286
           go_wp2_with (first | ((with_reducible refine gC (f := 43) rfl ?_); refine goesL_ (some 21) rfl rfl Tryd.func43 (by kernel_rfl) rfl #[.int .i64 ((rd_T81 l0 0).f1), .int .i64 0, .int .i64 1] rfl pA ?_; (with_reducible refine (spec_l1In.calls ((rd_T81 l0 0).f1) 0 1 t287 _ A9.out).mono ?_); rintro e w' ⟨rfl, ⟨nd, rfl⟩⟩; refine ⟨_, rfl, ?_⟩))
           go_ret
           exact ⟨pE, pB⟩
         · rw [if_neg c8] at H
           exact absurd H (by simp)
       · rw [if_neg c7] at H
         have c7b0 : (((rd_T81 l0 0).f0) == 2) = false := beq_eq_false_iff_ne.mpr c7
         have c7b1 : (((rd_T81 l0 0).f0) != 2) = true := bne_iff_ne.mpr c7
         by_cases c10 : ((rd_T81 l0 0).f0) = 3
         · rw [if_pos c10] at H
           have c10b0 : (((rd_T81 l0 0).f0) == 3) = true := beq_iff_eq.mpr c10
           have c10b1 : (((rd_T81 l0 0).f0) != 3) = false := bne_eq_false_iff_eq.mpr c10
           clear c10
           by_cases c11 : 0 < (l0.length : Int)
           · rw [if_pos c11] at H
             have c11b0 : decide (0 < (l0.length : Int)) = true := dt c11
             have c11b1 : decide (0 < l0.length) = true := dt (by omega)
             clear c11
             obtain ⟨t289, A120, H⟩ := bO H
             replace H : (some t289) = some r := H
             have A12 := am A120; clear A120
             obtain rfl := sj H
             have p288 : 0 ≤ (0 : Int) := (by omega)
             have q288 : 0 < (l0.length : Int) := pD
             obtain ⟨ad288, e288, hx288_0, hx288_1, hx288_2⟩ := at_T81 HR0.out 0 p288 q288
             obtain rfl : ad284 = ad288 := (by injection e288)
             have qi288 : (0 < l0.length) = True := eq_true (by omega)
             (try rw [z0, zm, az] at hx288_0); (try rw [z0, zm, az] at hx288_1); (try rw [z0, zm, az] at hx288_2); replace hx288_0 := cb HB hx288_0; replace hx288_1 := cb HB hx288_1; replace hx288_2 := cb HB hx288_2; replace p288 := eq_true p288; replace q288 := eq_true q288
             go_wp2_with (first | ((with_reducible refine gC (f := 43) rfl ?_); refine goesL_ (some 28) rfl rfl Tryd.func43 (by kernel_rfl) rfl #[.int .i64 ((rd_T81 l0 0).f1), .int .i64 0, .int .i64 2147483646] rfl pA ?_; (with_reducible refine (spec_l1In.calls ((rd_T81 l0 0).f1) 0 2147483646 t289 _ A12.out).mono ?_); rintro e w' ⟨rfl, ⟨nd, rfl⟩⟩; refine ⟨_, rfl, ?_⟩))
             go_ret
             exact ⟨pE, pB⟩
           · rw [if_neg c11] at H
             exact absurd H (by simp)
         · rw [if_neg c10] at H
           have c10b0 : (((rd_T81 l0 0).f0) == 3) = false := beq_eq_false_iff_ne.mpr c10
           have c10b1 : (((rd_T81 l0 0).f0) != 3) = true := bne_iff_ne.mpr c10
           by_cases c13 : 0 < (l0.length : Int)
           · rw [if_pos c13] at H
             have c13b0 : decide (0 < (l0.length : Int)) = true := dt c13
             have c13b1 : decide (0 < l0.length) = true := dt (by omega)
             clear c13
             obtain ⟨t291, A140, H⟩ := bO H
             replace H : (some t291) = some r := H
             have A14 := am A140; clear A140
             obtain rfl := sj H
             have p290 : 0 ≤ (0 : Int) := (by omega)
             have q290 : 0 < (l0.length : Int) := pD
             obtain ⟨ad290, e290, hx290_0, hx290_1, hx290_2⟩ := at_T81 HR0.out 0 p290 q290
             obtain rfl : ad284 = ad290 := (by injection e290)
             have qi290 : (0 < l0.length) = True := eq_true (by omega)
             (try rw [z0, zm, az] at hx290_0); (try rw [z0, zm, az] at hx290_1); (try rw [z0, zm, az] at hx290_2); replace hx290_0 := cb HB hx290_0; replace hx290_1 := cb HB hx290_1; replace hx290_2 := cb HB hx290_2; replace p290 := eq_true p290; replace q290 := eq_true q290
             go_wp2_with (first | ((with_reducible refine gC (f := 43) rfl ?_); refine goesL_ (some 33) rfl rfl Tryd.func43 (by kernel_rfl) rfl #[.int .i64 ((rd_T81 l0 0).f1), .int .i64 0, .int .i64 20] rfl pA ?_; (with_reducible refine (spec_l1In.calls ((rd_T81 l0 0).f1) 0 20 t291 _ A14.out).mono ?_); rintro e w' ⟨rfl, ⟨nd, rfl⟩⟩; refine ⟨_, rfl, ?_⟩))
             go_ret
             exact ⟨pE, pB⟩
           · rw [if_neg c13] at H
             exact absurd H (by simp)
 · rw [if_neg c2] at H
   exact absurd H (by simp)
def spec_l8Num.f (k : Nat) (a0_0 : Int) (a0_1 : Int) (a0_2 : ByteArray) : Option (Bool) := spec_l8Num_in.f k [(⟨a0_0, a0_1, a0_2⟩ : S81)]
theorem spec_l8Num.mono : ∀ (a0_0 : Int) (a0_1 : Int) (a0_2 : ByteArray) (k : Nat), LeO (spec_l8Num.f k a0_0 a0_1 a0_2) (spec_l8Num.f (k + 1) a0_0 a0_1 a0_2) := fun a0_0 a0_1 a0_2 k => spec_l8Num_in.mono [(⟨a0_0, a0_1, a0_2⟩ : S81)] k
set_option maxHeartbeats 8000000 in
theorem spec_l8Num.calls (k : Nat) (a0_0 : Int) (a0_1 : Int) (a0_2 : ByteArray) (r : Bool) (w : World) (h : spec_l8Num.f k a0_0 a0_1 a0_2 = some r) {pp0 : Addr} (hpp0_0 : w.cell? pp0 = some (.int .i64 a0_0)) (hpp0_1 : w.cell? ⟨pp0.block, pp0.off + 1, none⟩ = some (.int .i64 a0_1)) (hpp0_2 : w.cell? ⟨pp0.block, pp0.off + 2, none⟩ = some (.string a0_2)) :
 Calls Tryd.prog 99 #[.pointer (some pp0)] w fun e w' => e = .returned (.bool r) ∧ Below w.heap.size w w' := by
 have o0 : Kd.C k81 w (some pp0) 1 [(⟨a0_0, a0_1, a0_2⟩ : S81)] := by
  refine ⟨rfl, by decide, fun _ => ⟨pp0, rfl, fun j p hj => ?_⟩⟩
  cases j with
  | succ j => simp at hj
  | zero =>
   obtain rfl : (⟨a0_0, a0_1, a0_2⟩ : S81) = p := by simpa using hj
   refine ⟨_, rfl, k81_mk w _, fun i u hu => ?_⟩
   match i, hu with
   | 0, hu => obtain rfl := sj hu; exact hpp0_0
   | 1, hu => obtain rfl := sj hu; exact hpp0_1
   | 2, hu => obtain rfl := sj hu; exact hpp0_2
 exact spec_l8Num_in.calls k (some pp0) 1 [(⟨a0_0, a0_1, a0_2⟩ : S81)] r w o0 (Nat.le_refl 1) h
end Go.Proofs.YthjlbpgiaehjnaaDoor.QFnCuts
