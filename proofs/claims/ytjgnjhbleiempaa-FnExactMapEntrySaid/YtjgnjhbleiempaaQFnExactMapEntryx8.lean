-- written by this session's program (wip/tools/myprint.py)
import Derived.Test.YtjgnjhbleiempaaQFnExactMapEntryx0
import Derived.Test.YtjgnjhbleiempaaQFnExactMapEntryx1
import Derived.Test.YtjgnjhbleiempaaQFnExactMapEntryx6
import Derived.Test.YtjgnjhbleiempaaQFnExactMapEntryx7
namespace Go.Proofs.Ytjgnjhbleiempaa.QFnExactMapEntry
open Go.RowKit Go.Proofs.YtjgnjhbleiempaaW.PrintWords Go.Proofs.YtjgnjhbleiempaaW.PrintLast Go.Proofs.YtjgnjhbleiempaaW.PrintMore
attribute [local go_sem] max2_int min2_int max_two min_two max_three min_three max_four min_four   -- for this text's walks alone
set_option linter.unusedVariables false
set_option linter.unusedSimpArgs false

/-! ### impl_structure_value: function 120 (by hand: a map of names) -/
mutual
/-- What (*structure).value answers: the place behind, and the three marks. -/
def valueV : Nat → List S129 → Bool → Bool → Bool → Int → Int → Option (Int × Bool × Bool × Bool)
  | 0, _, _, _, _, _, _ => none
  | k + 1, l, f, t, n, at_, d =>
    if 0 ≤ at_ ∧ at_ ≤ l.length ∧ 0 ≤ d ∧ d ≤ 1000000 ∧ l.length ≤ 1000000 then
      if f = true ∨ (l.length : Int) ≤ at_ then some (at_, true, t, n)
      else if (rd_T129 l at_).f0 = 5 ∨ (rd_T129 l at_).f0 = 6 then valueL k l (rd_T129 l at_) false t (n || decide (4 < d)) (at_ + 1) d [] 0
      else some (at_ + 1, false, t, n || decide (4 < d))
    else none
def valueL : Nat → List S129 → S129 → Bool → Bool → Bool → Int → Int → List ByteArray → Int → Option (Int × Bool × Bool × Bool)
  | 0, _, _, _, _, _, _, _, _, _ => none
  | k + 1, l, x, f, t, n, at_, d, names, i =>
    if 0 ≤ i ∧ i ≤ 1000000 ∧ names.length ≤ 1000000 then
      if i < x.f1 then
        if x.f0 = 6 then
          if 0 ≤ at_ ∧ at_ ≤ l.length then
            if f = true ∨ (l.length : Int) ≤ at_ then some (at_, true, t, n)
            else if (rd_T129 l at_).f0 = 4 then
              (valueV k l false (t || names.any fun y => y.data.toList == (rd_T129 l at_).f2.data.toList) (n || decide (4 < d + 1)) (at_ + 1) (d + 1)).bind fun r => valueL k l x r.2.1 r.2.2.1 r.2.2.2 r.1 d ((rd_T129 l at_).f2 :: names) (i + 1)
            else some (at_, true, t, n)
          else none
        else (valueV k l f t n at_ (d + 1)).bind fun r => valueL k l x r.2.1 r.2.2.1 r.2.2.2 r.1 d names (i + 1)
      else some (at_, f, t, n)
    else none
end
open Go.Proofs.Ytjgnjhbleiempaa.HNames in
/-- What holds in a round of the loop. -/
structure InvV (w0 w W : World) (g gv B : Nat) (A : Option Addr) (c : Nat) (l : List S129) (x : S129) (f t n : Bool) (names : List ByteArray) : Prop where
  bs : W.heap[g]? = some (.cells #[.slice A l.length c, .bool f, .bool t, .bool n] 134 (0, 0))
  nm : NamesAt W B names
  bx : W.heap[gv]? = some (.cells #[.int .i64 x.f0, .int .i64 x.f1, .string x.f2] 129 (0, 0))
  bl : Below w0.heap.size w0 W
  kp : KeepBut w W g none
  gw : w0.heap.size ≤ g
  nb : B ≠ g
  nv : gv ≠ g
  vb : gv ≠ B
  hB : w.heap.size ≤ B
  hw : w0.heap.size ≤ w.heap.size
  rd : Kd.C k129 w0 A l.length l
theorem InvV.set1 {w0 w W : World} {g gv B : Nat} {A : Option Addr} {c : Nat} {l : List S129} {x : S129} {f t n : Bool} {names : List ByteArray} (h : InvV w0 w W g gv B A c l x f t n names) (b : Bool) : InvV w0 w (W.setCell ⟨g, 1, none⟩ (.bool b)) g gv B A c l x b t n names :=
  ⟨blk_put h.bs 1 _ rfl, h.nm.heap (Below.heap_setCell W ⟨g, 1, none⟩ _ B h.nb), blk_far h.bx h.nv _, below_set h.bl h.gw, h.kp.set_ 1 _, h.gw, h.nb, h.nv, h.vb, h.hB, h.hw, h.rd⟩
theorem InvV.set2 {w0 w W : World} {g gv B : Nat} {A : Option Addr} {c : Nat} {l : List S129} {x : S129} {f t n : Bool} {names : List ByteArray} (h : InvV w0 w W g gv B A c l x f t n names) (b : Bool) : InvV w0 w (W.setCell ⟨g, 2, none⟩ (.bool b)) g gv B A c l x f b n names :=
  ⟨blk_put h.bs 2 _ rfl, h.nm.heap (Below.heap_setCell W ⟨g, 2, none⟩ _ B h.nb), blk_far h.bx h.nv _, below_set h.bl h.gw, h.kp.set_ 2 _, h.gw, h.nb, h.nv, h.vb, h.hB, h.hw, h.rd⟩
theorem InvV.set3 {w0 w W : World} {g gv B : Nat} {A : Option Addr} {c : Nat} {l : List S129} {x : S129} {f t n : Bool} {names : List ByteArray} (h : InvV w0 w W g gv B A c l x f t n names) (b : Bool) : InvV w0 w (W.setCell ⟨g, 3, none⟩ (.bool b)) g gv B A c l x f t b names :=
  ⟨blk_put h.bs 3 _ rfl, h.nm.heap (Below.heap_setCell W ⟨g, 3, none⟩ _ B h.nb), blk_far h.bx h.nv _, below_set h.bl h.gw, h.kp.set_ 3 _, h.gw, h.nb, h.nv, h.vb, h.hB, h.hw, h.rd⟩
theorem InvV.put {w0 w W W' : World} {g gv B : Nat} {A : Option Addr} {c : Nat} {l : List S129} {x : S129} {f t n : Bool} {names names' : List ByteArray} (h : InvV w0 w W g gv B A c l x f t n names) (hn : Go.Proofs.Ytjgnjhbleiempaa.HNames.NamesAt W' B names') (hg : W.grownBy W' (some B)) : InvV w0 w W' g gv B A c l x f t n names' :=
  ⟨blk_grown h.bs hg (fun e => h.nb (Option.some.inj e).symm), hn, blk_grown h.bx hg (fun e => h.vb (Option.some.inj e)), h.bl.grown hg (Nat.le_trans h.hw h.kp.1) (fun k hk => by cases hk; exact Nat.le_trans h.hw h.hB), h.kp.trans (KeepBut.of_grown hg g) (.inr ⟨B, rfl, h.hB⟩), h.gw, h.nb, h.nv, h.vb, h.hB, h.hw, h.rd⟩
theorem InvV.call {w0 w W W' : World} {g gv B : Nat} {A A' : Option Addr} {c c' : Nat} {l : List S129} {x : S129} {f t n f' t' n' : Bool} {names : List ByteArray} (h : InvV w0 w W g gv B A c l x f t n names) (hs : W'.heap[g]? = some (.cells #[.slice A' l.length c', .bool f', .bool t', .bool n'] 134 (0, 0))) (hr : Kd.C k129 w0 A' l.length l) (hb : Below w0.heap.size w0 W') (hk : KeepBut W W' g none) : InvV w0 w W' g gv B A' c' l x f' t' n' names :=
  ⟨hs, h.nm.heap (hk.2 B h.nm.lt h.nb (by simp)), hk.blk h.bx h.nv (by simp), hb, h.kp.trans hk (.inl rfl), h.gw, h.nb, h.nv, h.vb, h.hB, h.hw, hr⟩
theorem InvV.st {w0 w W : World} {g gv B : Nat} {A : Option Addr} {c : Nat} {l : List S129} {x : S129} {f t n : Bool} {names : List ByteArray} (h : InvV w0 w W g gv B A c l x f t n names) : IsS134 w0 W g l f t n := ⟨A, c, h.bs, h.gw, h.rd⟩
theorem InvV.el {w0 w W : World} {g gv B : Nat} {A : Option Addr} {c : Nat} {l : List S129} {x : S129} {f t n : Bool} {names : List ByteArray} (h : InvV w0 w W g gv B A c l x f t n names) {a : Addr} {v : Value} (hx : w0.cell? a = some v) : W.cell? a = some v := (h.bl.cell (World.block_lt_of_cell? w0 a hx)).trans hx
set_option maxHeartbeats 4000000 in
set_option maxRecDepth 100000 in
theorem valueV_calls : ∀ (k g : Nat) (l : List S129) (f t n : Bool) (at_ d : Int) (r1 : Int) (r2 r3 r4 : Bool) (w0 w : World), (∀ x ∈ l, x.f2.size ≤ maxLen) → IsS134 w0 w g l f t n → Below w0.heap.size w0 w → valueV k l f t n at_ d = some (r1, r2, r3, r4) →
    Calls Try.prog 120 #[.pointer (some ⟨g, 0, none⟩), .int .i64 at_, .int .i64 d] w fun e w' => e = .returned (.int .i64 r1) ∧ IsS134 w0 w' g l r2 r3 r4 ∧ Below w0.heap.size w0 w' ∧ KeepBut w w' g none := by
  have hu134 := Try.underlying134
  have hu129 := Try.underlying129
  intro k
  induction k using Nat.strongRecOn with
  | _ k ih =>
    intro g l f t n at_ d r1 r2 r3 r4 w0 w hsz hI hB h
    cases k with
    | zero => simp [valueV] at h
    | succ k =>
      unfold valueV at h
      by_cases hG : 0 ≤ at_ ∧ at_ ≤ l.length ∧ 0 ≤ d ∧ d ≤ 1000000 ∧ l.length ≤ 1000000
      · rw [if_pos hG] at h
        obtain ⟨A, c, hb, hg, hr⟩ := hI
        have HR := Aside0.mk hr
        have HBX := Aside0.mk hb
        have HB := Aside0.mk hB
        have HG := Aside0.mk hg
        have HGG := Aside0.mk hG
        have hc0 : w.cell? ⟨g, 0, none⟩ = some (.slice A l.length c) := (blk_cell hb 0).trans rfl
        have hc1 : w.cell? ⟨g, 1, none⟩ = some (.bool f) := (blk_cell hb 1).trans rfl
        have hf1 := blk_frozen hb 1
        clear hr hb hB hg
        by_cases hE : f = true ∨ (l.length : Int) ≤ at_
        · rw [if_pos hE] at h
          simp only [Option.some.injEq, Prod.mk.injEq] at h
          obtain ⟨rfl, rfl, rfl, rfl⟩ := h
          cases f with
          | true =>
            clear hE
            go_enter Try.func120, Try.ntmps120
            go_wp2
            go_ret
            exact ⟨rfl, ⟨A, c, blk_put HBX.out 1 _ rfl, HG.out, HR.out⟩, below_set HB.out HG.out, (KeepBut.refl w g none).set_ 1 _⟩
          | false =>
            have hat : (l.length : Int) ≤ at_ := hE.resolve_left (by decide)
            have hatb : decide ((l.length : Int) ≤ at_) = true := decide_eq_true hat
            clear hE
            go_enter Try.func120, Try.ntmps120
            go_wp2
            go_ret
            exact ⟨rfl, ⟨A, c, blk_put HBX.out 1 _ rfl, HG.out, HR.out⟩, below_set HB.out HG.out, (KeepBut.refl w g none).set_ 1 _⟩
        · rw [if_neg hE] at h
          have hfF : f = false := by cases f with | false => rfl | true => exact absurd (.inl rfl) hE
          subst hfF
          have hlt : at_ < (l.length : Int) := by rcases Int.lt_or_le at_ l.length with h1 | h1; · exact h1
                                                  · exact absurd (.inr h1) hE
          have hatb : decide ((l.length : Int) ≤ at_) = false := decide_eq_false (by omega)
          clear hE
          have h00 := HGG.out.1
          obtain ⟨ad, e, hx0, hx1, hx2⟩ := at_T129 HR.out at_ h00 hlt
          cases e
          obtain ⟨x, hxd⟩ : ∃ x, rd_T129 l at_ = x := ⟨_, rfl⟩
          rw [hxd] at h hx0 hx1 hx2
          have HXD := Aside0.mk hxd
          clear hxd
          have hna : (ad.add (at_.toNat * 3)).block ≠ g := Nat.ne_of_lt (Nat.lt_of_lt_of_le (World.block_lt_of_cell? w0 _ hx0) HG.out)
          have hna' : ad.block ≠ g := by have := hna; rwa [add_block] at this
          have HX0 := Aside0.mk hx0
          have HX1 := Aside0.mk hx1
          have HX2 := Aside0.mk hx2
          clear hx0 hx1 hx2 hna hna'
          have hc3 : w.cell? ⟨g, 3, none⟩ = some (.bool n) := (blk_cell HBX.out 3).trans rfl
          have hf3 := blk_frozen HBX.out 3
          have p5 := eq_true h00
          have q5 := eq_true hlt
          have hmm := @run_makeMap Try.prog
          have hw1 : wrap64 (at_ + 1) = at_ + 1 := by have := HGG.out; unfold wrap64; omega
          go_enter Try.func120, Try.ntmps120
          go_upto_region 4 with fail
          go_cut [] (fun wc => wc = (w.setCell ⟨g, 1, none⟩ (.bool false)).setCell ⟨g, 3, none⟩ (.bool (n || decide (4 < d))))
          case first =>
            cases n with
            | true => go_wp2; go_meet; rfl
            | false => go_wp2; go_meet; rfl
          case rest =>
            have BSc := Aside0.mk (show wc.heap[g]? = some (.cells #[.slice (some ad) l.length c, .bool false, .bool t, .bool (n || decide (4 < d))] 134 (0, 0)) by rw [hcut]; exact blk_put (cs := #[.slice (some ad) l.length c, .bool false, .bool t, .bool n]) (blk_put HBX.out 1 _ rfl) 3 _ rfl)
            have BLc := Aside0.mk (show Below w0.heap.size w0 wc by rw [hcut]; exact below_set (below_set HB.out HG.out) HG.out)
            have KPc := Aside0.mk (show KeepBut w wc g none by rw [hcut]; exact ((KeepBut.refl w g none).set_ 1 _).set_ 3 _)
            clear hcut hc0 hc1 hf1 hc3 hf3
            have hc0 : wc.cell? ⟨g, 0, none⟩ = some (.slice (some ad) l.length c) := (blk_cell BSc.out 0).trans rfl
            have hx0 := (BLc.out.cell (World.block_lt_of_cell? w0 _ HX0.out)).trans HX0.out
            have hx1 := (BLc.out.cell (World.block_lt_of_cell? w0 _ HX1.out)).trans HX1.out
            have hx2 := (BLc.out.cell (World.block_lt_of_cell? w0 _ HX2.out)).trans HX2.out
            go_upto_region 7 with (first | ((with_reducible refine gate_dst (N := 7) rfl ?_); refine box_event ?hg (N := 7) ?hd (cs := #[.int .i64 0, .int .i64 0, .string ⟨#[]⟩]) (t := 129) ?hr ?_; (case hd => rfl); (case hg => rfl); (case hr => first | (go_simp; done) | (go_simp; rfl)); intro gv hgv w5 hbox hb; have HV5 := Aside0.mk hbox; have HB5 := Aside0.mk hb; have HGV := Aside0.mk hgv; have hz0 : w5.cell? ⟨gv, 0, none⟩ = some (.int .i64 0) := (blk_cell hbox 0).trans rfl; have hz1 : w5.cell? ⟨gv, 1, none⟩ = some (.int .i64 0) := (blk_cell hbox 1).trans rfl; have hz2 : w5.cell? ⟨gv, 2, none⟩ = some (.string ⟨#[]⟩) := (blk_cell hbox 2).trans rfl; have hzf0 := blk_frozen hbox 0; have hzf1 := blk_frozen hbox 1; have hzf2 := blk_frozen hbox 2; clear hbox hb hgv))
            have hgt : wc.heap.size < gv := by rw [HGV.out]; simp
            have hgw : g < wc.heap.size := blk_lt BSc.out
            have hnv : gv ≠ g := by omega
            have hnb : wc.heap.size ≠ g := by omega
            have hvb : wc.heap.size ≠ gv := by omega
            have hgw0 : w0.heap.size ≤ gv := Nat.le_trans HB.out.size (Nat.le_trans KPc.out.1 (Nat.le_of_lt hgt))
            have hN5 : Go.Proofs.Ytjgnjhbleiempaa.HNames.NamesAt w5 wc.heap.size [] := (Go.Proofs.Ytjgnjhbleiempaa.HNames.NamesAt.made wc).heap (HB5.out.block _ (by simp))
            have hB5g := blk_below (g := g) (blk_alloc BSc.out (.map #[] 0)) HB5.out
            have hL5 : Below w0.heap.size w0 w5 := below_step (below_alloc BLc.out _) HB5.out
            have hK5 : KeepBut w w5 g none := (keep_alloc KPc.out _).trans (KeepBut.of_below HB5.out g none) (.inl rfl)
            have hwg : w.heap.size ≤ gv := Nat.le_trans KPc.out.1 (Nat.le_of_lt hgt)
            have HI := Aside0.mk (show InvV w0 w (((w5.setCell ⟨gv, 0, none⟩ (.int .i64 x.f0)).setCell ⟨gv, 1, none⟩ (.int .i64 x.f1)).setCell ⟨gv, 2, none⟩ (.string x.f2)) g gv wc.heap.size (some ad) c l x false t (n || decide (4 < d)) [] from
              ⟨blk_far (blk_far (blk_far hB5g hnv.symm _) hnv.symm _) hnv.symm _, ((hN5.heap (Below.heap_setCell _ ⟨gv, 0, none⟩ _ _ hvb)).heap (Below.heap_setCell _ ⟨gv, 1, none⟩ _ _ hvb)).heap (Below.heap_setCell _ ⟨gv, 2, none⟩ _ _ hvb), blk_put (cs := #[.int .i64 x.f0, .int .i64 x.f1, .string ⟨#[]⟩]) (blk_put (cs := #[.int .i64 x.f0, .int .i64 0, .string ⟨#[]⟩]) (blk_put HV5.out 0 _ rfl) 1 _ rfl) 2 _ rfl, below_set (below_set (below_set hL5 hgw0) hgw0) hgw0, keep_far (keep_far (keep_far hK5 hwg _) hwg _) hwg _, HG.out, hnb, hnv, hvb.symm, KPc.out.1, HB.out.size, HR.out⟩)
            clear hgt hgw hnv hnb hvb hgw0 hN5 hB5g hL5 hK5 hwg
            generalize wc.heap.size = Bm at HI ⊢
            go_cut [58] (fun v58 wd => ∃ b, v58 = .bool b ∧ Aside0 (b = decide (¬ (x.f0 = 5 ∨ x.f0 = 6))) ∧ Aside0 (InvV w0 w wd g gv Bm (some ad) c l x false t (n || decide (4 < d)) []))
            case first =>
              by_cases k5 : x.f0 = 5
              · have k5b : (x.f0 != 5) = false := bne_eq_false_iff_eq.2 k5
                have k5c : (x.f0 == 5) = true := beq_iff_eq.2 k5
                have e : decide (¬ (x.f0 = 5 ∨ x.f0 = 6)) = false := decide_eq_false (by simp [k5])
                clear k5
                go_wp2
                go_meet
                exact ⟨false, rfl, ⟨e.symm⟩, HI⟩
              · have k5b : (x.f0 != 5) = true := bne_iff_ne.2 k5
                have k5c : (x.f0 == 5) = false := beq_eq_false_iff_ne.2 k5
                by_cases k6 : x.f0 = 6
                · have k6b : (x.f0 != 6) = false := bne_eq_false_iff_eq.2 k6
                  have k6c : (x.f0 == 6) = true := beq_iff_eq.2 k6
                  have e : decide (¬ (x.f0 = 5 ∨ x.f0 = 6)) = false := decide_eq_false (by simp [k6])
                  clear k5 k6
                  go_wp2
                  go_meet
                  exact ⟨false, rfl, ⟨e.symm⟩, HI⟩
                · have k6b : (x.f0 != 6) = true := bne_iff_ne.2 k6
                  have k6c : (x.f0 == 6) = false := beq_eq_false_iff_ne.2 k6
                  have e : decide (¬ (x.f0 = 5 ∨ x.f0 = 6)) = true := decide_eq_true (by simp [k5, k6])
                  clear k5 k6
                  go_wp2
                  go_meet
                  exact ⟨true, rfl, ⟨e.symm⟩, HI⟩
            case rest =>
              clear HI
              obtain ⟨b, rfl, hb, HI⟩ := hcut
              by_cases hk : x.f0 = 5 ∨ x.f0 = 6
              · rw [if_pos hk] at h
                have hb' := hb.out
                rw [decide_eq_false (fun h_ => h_ hk)] at hb'
                subst hb'
                have HEV := Aside0.mk h
                have HK := Aside0.mk hk
                clear h hb hk
                have hq1 : wc.cell? ⟨gv, 1, none⟩ = some (.int .i64 x.f1) := (blk_cell HI.out.bx 1).trans rfl
                go_wp2
                go_loopg [1, 62] k (fun kq v1 v62 w' => ∃ (a i : Int) (f' t' n' : Bool) (names : List ByteArray) (A' : Option Addr) (c' : Nat), v1 = .int .i64 a ∧ v62 = .int .i64 i ∧ Aside0 (valueL kq l x f' t' n' a d names i = some (r1, r2, r3, r4)) ∧ Aside0 (kq ≤ k) ∧ Aside0 (InvV w0 w w' g gv Bm A' c' l x f' t' n' names))
                case atStart => exact ⟨at_ + 1, 0, false, t, _, [], _, _, (by first | rfl | (simp [hw1]; done)), rfl, HEV, ⟨Nat.le_refl _⟩, HI⟩
                case round =>
                  clear HI HEV
                  obtain ⟨a, i, f', t', n', names, A', c', rfl, rfl, HA, HK1, HI⟩ := hrel
                  cases gk with
                  | zero => exact absurd HA.out (by simp [valueL])
                  | succ k1 =>
                    have h := HA.out
                    clear HA
                    unfold valueL at h
                    by_cases hG2 : 0 ≤ i ∧ i ≤ 1000000 ∧ names.length ≤ 1000000
                    · rw [if_pos hG2] at h
                      have HG2 := Aside0.mk hG2
                      clear hG2
                      have hq0 : wr.cell? ⟨gv, 0, none⟩ = some (.int .i64 x.f0) := (blk_cell HI.out.bx 0).trans rfl
                      have hwi : wrap64 (i + 1) = i + 1 := by have := HG2.out; unfold wrap64; omega
                      have hwd : wrap64 (d + 1) = d + 1 := by have := HGG.out; unfold wrap64; omega
                      by_cases hi : i < x.f1
                      · rw [if_pos hi] at h
                        have hib : decide (i < x.f1) = true := decide_eq_true hi
                        by_cases h6 : x.f0 = 6
                        · rw [if_pos h6] at h
                          have h6b : (x.f0 == 6) = true := beq_iff_eq.2 h6
                          clear h6 hi
                          by_cases hG3 : 0 ≤ a ∧ a ≤ l.length
                          · rw [if_pos hG3] at h
                            have HG3 := Aside0.mk hG3
                            clear hG3
                            have hc0 : wr.cell? ⟨g, 0, none⟩ = some (.slice A' l.length c') := (blk_cell HI.out.bs 0).trans rfl
                            have hc1 : wr.cell? ⟨g, 1, none⟩ = some (.bool f') := (blk_cell HI.out.bs 1).trans rfl
                            have hf1 := blk_frozen HI.out.bs 1
                            by_cases hE2 : f' = true ∨ (l.length : Int) ≤ a
                            · rw [if_pos hE2] at h
                              simp only [Option.some.injEq, Prod.mk.injEq] at h
                              obtain ⟨rfl, rfl, rfl, rfl⟩ := h
                              cases f' with
                              | true =>
                                clear hE2
                                go_wp2
                                go_ret
                                exact ⟨rfl, (HI.out.set1 true).st, (HI.out.set1 true).bl, (HI.out.set1 true).kp⟩
                              | false =>
                                have hatb2 : decide ((l.length : Int) ≤ a) = true := decide_eq_true (hE2.resolve_left (by decide))
                                clear hE2
                                go_wp2
                                go_ret
                                exact ⟨rfl, (HI.out.set1 true).st, (HI.out.set1 true).bl, (HI.out.set1 true).kp⟩
                            · rw [if_neg hE2] at h
                              have hfF : f' = false := by cases f' with | false => rfl | true => exact absurd (.inl rfl) hE2
                              subst hfF
                              have hlt2 : a < (l.length : Int) := by
                                rcases Int.lt_or_le a l.length with h1 | h1
                                · exact h1
                                · exact absurd (.inr h1) hE2
                              have hatb2 : decide ((l.length : Int) ≤ a) = false := decide_eq_false (by omega)
                              clear hE2
                              have h02 := HG3.out.1
                              obtain ⟨ad2, e, hy0, hy1, hy2⟩ := at_T129 HI.out.rd a h02 hlt2
                              cases e
                              have hys : (rd_T129 l a).f2.size ≤ maxLen := by
                                unfold rd_T129
                                rw [List.getD_eq_getElem?_getD, List.getElem?_eq_getElem (by omega)]
                                exact hsz _ (List.getElem_mem _)
                              generalize rd_T129 l a = y at h hy0 hy1 hy2 hys
                              have HY0 := Aside0.mk hy0
                              have HY2 := Aside0.mk hy2
                              clear hy1 hy2
                              replace hy0 := HI.out.el hy0
                              have p6 := eq_true h02
                              have q6 := eq_true hlt2
                              have hwa : wrap64 (a + 1) = a + 1 := by have := HG3.out; have := HGG.out; unfold wrap64; omega
                              by_cases h4 : y.f0 = 4
                              · rw [if_pos h4] at h
                                have h4b : (y.f0 != 4) = false := bne_eq_false_iff_eq.2 h4
                                have h4c : (y.f0 == 4) = true := beq_iff_eq.2 h4
                                clear h4
                                obtain ⟨⟨s1, s2, s3, s4⟩, hv, h⟩ := Option.bind_eq_some_iff.mp h
                                have HV := Aside0.mk hv
                                have HE2 := Aside0.mk h
                                clear hv h
                                have hc3 : wr.cell? ⟨g, 3, none⟩ = some (.bool n') := (blk_cell HI.out.bs 3).trans rfl
                                have hf3 := blk_frozen HI.out.bs 3
                                go_upto_region 15 with fail
                                go_cut [] (fun wd => Aside0 (InvV w0 w wd g gv Bm (some ad2) c' l x false t' (n' || decide (4 < d + 1)) names))
                                case first =>
                                  cases n' with
                                  | true => go_wp2; go_meet; exact ⟨(HI.out.set1 false).set3 true⟩
                                  | false => go_wp2; go_meet; exact ⟨(HI.out.set1 false).set3 _⟩
                                case rest =>
                                  clear HI hy0 hc0 hc1 hf1 hc3 hf3 hq0 hq1
                                  have HI := hcut
                                  clear hcut
                                  have hc0 : wc.cell? ⟨g, 0, none⟩ = some (.slice (some ad2) l.length c') := (blk_cell HI.out.bs 0).trans rfl
                                  have hc2 : wc.cell? ⟨g, 2, none⟩ = some (.bool t') := (blk_cell HI.out.bs 2).trans rfl
                                  have hf2 := blk_frozen HI.out.bs 2
                                  have hy2 := HI.out.el HY2.out
                                  have hlk := HI.out.nm.look Try.underlying169 y.f2 hys
                                  generalize (names.any fun z => z.data.toList == y.f2.data.toList) = seen at hlk HV
                                  go_upto_region 16 with fail
                                  go_cut [] (fun wd => Aside0 (InvV w0 w wd g gv Bm (some ad2) c' l x false (t' || seen) (n' || decide (4 < d + 1)) names))
                                  case first =>
                                    cases t' with
                                    | true => go_wp2; go_meet; exact ⟨HI.out.set2 true⟩
                                    | false => go_wp2; go_meet; exact ⟨HI.out.set2 _⟩
                                  case rest =>
                                    clear HI hc0 hc2 hf2 hy2 hlk
                                    have HI := hcut
                                    clear hcut
                                    have hc0 : wc.cell? ⟨g, 0, none⟩ = some (.slice (some ad2) l.length c') := (blk_cell HI.out.bs 0).trans rfl
                                    have hy2 := HI.out.el HY2.out
                                    go_wp2_with (first | (at_mapUpdate; refine Go.Proofs.Ytjgnjhbleiempaa.HNames.wpList_names rfl _ _ _ 169 rfl Try.underlying169 Bm names rfl HI.out.nm (by have := HG2.out; unfold maxLen; omega) y.f2 hys rfl rfl ?_; intro w7 hn7 hg7; have HI7 := Aside0.mk (HI.out.put hn7 hg7); clear hn7 hg7) | (go_at_call 120; refine (ih k1 (by have := HK1.out; omega) g l false _ _ (a + 1) (d + 1) s1 s2 s3 s4 w0 _ hsz HI7.out.st HI7.out.bl HV.out).mono ?_; rintro e w8 ⟨rfl, ⟨A8, c8, hb8, _, hr8⟩, hbl8, hk8⟩; have HI8 := Aside0.mk (HI7.out.call hb8 hr8 hbl8 hk8); clear hb8 hbl8 hk8 hr8))
                                    go_roundg k1
                                    case measure => omega
                                    case rel => exact ⟨s1, i + 1, s2, s3, s4, y.f2 :: names, A8, c8, rfl, (by first | rfl | (simp [hwi]; done)), HE2, ⟨by have := HK1.out; omega⟩, HI8⟩
                              · rw [if_neg h4] at h
                                have h4b : (y.f0 != 4) = true := bne_iff_ne.2 h4
                                have h4c : (y.f0 == 4) = false := beq_eq_false_iff_ne.2 h4
                                clear h4
                                simp only [Option.some.injEq, Prod.mk.injEq] at h
                                obtain ⟨rfl, rfl, rfl, rfl⟩ := h
                                go_wp2
                                go_ret
                                exact ⟨rfl, (HI.out.set1 true).st, (HI.out.set1 true).bl, (HI.out.set1 true).kp⟩
                          · rw [if_neg hG3] at h; cases h
                        · rw [if_neg h6] at h
                          have h6b : (x.f0 == 6) = false := beq_eq_false_iff_ne.2 h6
                          clear h6 hi
                          obtain ⟨⟨s1, s2, s3, s4⟩, hv, h⟩ := Option.bind_eq_some_iff.mp h
                          have HV := Aside0.mk hv
                          have HE2 := Aside0.mk h
                          clear hv h
                          go_wp2_with (first | (go_at_call 120; refine (ih k1 (by have := HK1.out; omega) g l f' t' n' a (d + 1) s1 s2 s3 s4 w0 _ hsz HI.out.st HI.out.bl HV.out).mono ?_; rintro e w8 ⟨rfl, ⟨A8, c8, hb8, _, hr8⟩, hbl8, hk8⟩; have HI8 := Aside0.mk (HI.out.call hb8 hr8 hbl8 hk8); clear hb8 hbl8 hk8 hr8))
                          go_roundg k1
                          case measure => omega
                          case rel => exact ⟨s1, i + 1, s2, s3, s4, names, A8, c8, rfl, (by first | rfl | (simp [hwi]; done)), HE2, ⟨by have := HK1.out; omega⟩, HI8⟩
                      · rw [if_neg hi] at h
                        have hib : decide (i < x.f1) = false := decide_eq_false hi
                        simp only [Option.some.injEq, Prod.mk.injEq] at h
                        obtain ⟨rfl, rfl, rfl, rfl⟩ := h
                        clear hi
                        go_wp2
                        go_ret
                        exact ⟨rfl, HI.out.st, HI.out.bl, HI.out.kp⟩
                    · rw [if_neg hG2] at h; cases h
              · rw [if_neg hk] at h
                have hb' := hb.out
                rw [decide_eq_true hk] at hb'
                subst hb'
                simp only [Option.some.injEq, Prod.mk.injEq] at h
                obtain ⟨rfl, rfl, rfl, rfl⟩ := h
                clear hb hk
                go_wp2
                go_ret
                exact ⟨by first | rfl | (simp [hw1]; done), HI.out.st, HI.out.bl, HI.out.kp⟩
      · rw [if_neg hG] at h; cases h
/-- More rounds than there are values are never needed. -/
def impl_structure_value.f (s0_0 : List S129) (s0_1 : Bool) (s0_2 : Bool) (s0_3 : Bool) (a1 : Int) (a2 : Int) : Option (Int × Bool × Bool × Bool) := if (∀ x ∈ s0_0, x.f2.size ≤ maxLen) then valueV 100000 s0_0 s0_1 s0_2 s0_3 a1 a2 else none
theorem impl_structure_value.calls (g : Nat) (s0_0 : List S129) (s0_1 : Bool) (s0_2 : Bool) (s0_3 : Bool) (a1 : Int) (a2 : Int) (r1 : Int) (r2 : Bool) (r3 : Bool) (r4 : Bool) (w0 w : World) (hI : IsS134 w0 w g s0_0 s0_1 s0_2 s0_3) (hB : Below w0.heap.size w0 w) (h : impl_structure_value.f s0_0 s0_1 s0_2 s0_3 a1 a2 = some (r1, r2, r3, r4)) :
    Calls Try.prog 120 #[.pointer (some ⟨g, 0, none⟩), .int .i64 a1, .int .i64 a2] w fun e w' => e = .returned (.int .i64 r1) ∧ IsS134 w0 w' g s0_0 r2 r3 r4 ∧ Below w0.heap.size w0 w' ∧ KeepBut w w' g none := by
  unfold impl_structure_value.f at h
  by_cases hs : ∀ x ∈ s0_0, x.f2.size ≤ maxLen
  · rw [if_pos hs] at h
    exact valueV_calls 100000 g s0_0 s0_1 s0_2 s0_3 a1 a2 r1 r2 r3 r4 w0 w hs hI hB h
  · rw [if_neg hs] at h; cases h

/-! ### impl_ValsFault: function 46 (by hand: a state in a box) -/
/-- What ValsFault does from a place on. -/
def impl_ValsFault.l0 : Nat → List S129 → Int → Option Int
  | 0, _, _ => none
  | k + 1, x0, x => if x < (x0.length : Int) then (if 0 ≤ x then ((impl_valFault.f k ((rd_T129 x0 x).f0) ((rd_T129 x0 x).f1) ((rd_T129 x0 x).f2)).bind fun c => if c = 0 then impl_ValsFault.l0 k x0 (wrap64 (x + 1)) else some c) else none) else ((impl_structure_value.f x0 false false false 0 0).bind fun r => if r.2.1 = true then some 1 else if r.1 = (x0.length : Int) then (if r.2.2.1 = true then some 6 else if r.2.2.2 = true then some 2 else some 0) else some 1)
def impl_ValsFault.f (k : Nat) (l0 : List S129) : Option Int := (impl_in.f (l0.length : Int) 1 20).bind fun t => if t = true then impl_ValsFault.l0 k l0 0 else some 2
theorem impl_ValsFault.mono_l : ∀ k x0 x, LeO (impl_ValsFault.l0 k x0 x) (impl_ValsFault.l0 (k + 1) x0 x)
  | 0 => fun _ _ r h => by simp [impl_ValsFault.l0] at h
  | k + 1 => by
    intro x0 x r h
    unfold impl_ValsFault.l0 at h ⊢
    by_cases c1 : x < (x0.length : Int)
    · rw [if_pos c1] at h ⊢
      by_cases c2 : 0 ≤ x
      · rw [if_pos c2] at h ⊢
        obtain ⟨c, h1, h2⟩ := Option.bind_eq_some_iff.mp h
        refine Option.bind_eq_some_iff.mpr ⟨c, impl_valFault.mono _ _ _ _ _ h1, ?_⟩
        by_cases c3 : c = 0
        · rw [if_pos c3] at h2 ⊢
          exact impl_ValsFault.mono_l k _ _ r h2
        · rw [if_neg c3] at h2 ⊢
          exact h2
      · rw [if_neg c2] at h; cases h
    · rw [if_neg c1] at h ⊢
      exact h
theorem impl_ValsFault.mono : ∀ a0 k, LeO (impl_ValsFault.f k a0) (impl_ValsFault.f (k + 1) a0) := by
  intro a0 k r h
  unfold impl_ValsFault.f at h ⊢
  obtain ⟨t, h1, h2⟩ := Option.bind_eq_some_iff.mp h
  refine Option.bind_eq_some_iff.mpr ⟨t, h1, ?_⟩
  by_cases c : t = true
  · rw [if_pos c] at h2 ⊢
    exact impl_ValsFault.mono_l k _ _ r h2
  · rw [if_neg c] at h2 ⊢
    exact h2
set_option maxHeartbeats 4000000 in
set_option maxRecDepth 100000 in
theorem impl_ValsFault.calls (k : Nat) (A0 : Option Addr) (c0 : Nat) (l0 : List (S129)) (r : Int) (w : World) (hr0 : Kd.C k129 w A0 l0.length l0) (hc0 : l0.length ≤ c0) (h : impl_ValsFault.f k l0 = some r) :
    Calls Try.prog 46 #[.slice A0 l0.length c0] w fun e w' => e = .returned (.int .i64 r) ∧ Below w.heap.size w w' := by
  have hu129 := Try.underlying129
  have hu134 := Try.underlying134
  have HR0 := Aside0.mk hr0
  have HC0 := Aside0.mk hc0
  clear hr0 hc0
  unfold impl_ValsFault.f at h
  obtain ⟨t, ht, h⟩ := Option.bind_eq_some_iff.mp h
  have HT := Aside0.mk ht
  clear ht
  by_cases c1 : t = true
  · rw [if_pos c1] at h
    subst c1
    have HC2 := Aside0.mk h
    clear h
    have HB := Aside0.mk (Below.refl w.heap.size w)
    go_enter Try.func46, Try.ntmps46
    go_wp2_with (first | (go_at_call 110; refine (impl_in.calls _ _ _ true _ HT.out).mono ?_; rintro e w3 ⟨rfl, hd⟩; have n0_ := Aside0.mk (below_step HB.out hd.below); clear HB; have HB := n0_; clear n0_ hd))
    go_loopg [14] k (fun kq v14 w' => ∃ (x : Int), v14 = .int .i64 x ∧ Aside0 (impl_ValsFault.l0 kq l0 x = some r) ∧ Aside0 (kq ≤ k) ∧ Aside0 (Below w.heap.size w w'))
    case atStart => exact ⟨0, rfl, HC2, ⟨Nat.le_refl _⟩, HB⟩
    case round =>
      clear HC2 HB
      obtain ⟨x, rfl, HA, HK, HB⟩ := hrel
      cases gk with
      | zero => exact absurd HA.out (by simp [impl_ValsFault.l0])
      | succ k2 =>
        have H := HA.out
        clear HA
        simp only [impl_ValsFault.l0] at H
        by_cases c5 : x < (l0.length : Int)
        · rw [if_pos c5] at H
          have c5b0 : decide (x < (l0.length : Int)) = true := decide_eq_true c5
          by_cases c6 : 0 ≤ x
          · rw [if_pos c6] at H
            obtain ⟨cc, A70, H⟩ := Option.bind_eq_some_iff.mp H
            have A7 := Aside0.mk A70
            clear A70
            obtain ⟨ad, e, hx0, hx1, hx2⟩ := at_T129 HR0.out x c6 c5
            cases e
            replace hx0 := (HB.out.cell (World.block_lt_of_cell? w _ hx0)).trans hx0
            replace hx1 := (HB.out.cell (World.block_lt_of_cell? w _ hx1)).trans hx1
            replace hx2 := (HB.out.cell (World.block_lt_of_cell? w _ hx2)).trans hx2
            have p5 := eq_true c6
            have q5 := eq_true c5
            have HH := Aside0.mk H
            clear H c5 c6
            go_upto_region 6 with (first | ((with_reducible refine gate_dst (N := 4) rfl ?_); refine box_event ?hg (N := 4) ?hd (cs := #[.int .i64 0, .int .i64 0, .string ⟨#[]⟩]) (t := 129) ?hr ?_; (case hd => rfl); (case hg => rfl); (case hr => first | (go_simp; done) | (go_simp; rfl)); intro gv hgv w5 hbox hb; have HV5 := Aside0.mk hbox; have HB5 := Aside0.mk hb; have HGV := Aside0.mk hgv; have hz0 : w5.cell? ⟨gv, 0, none⟩ = some (.int .i64 0) := (blk_cell hbox 0).trans rfl; have hz1 : w5.cell? ⟨gv, 1, none⟩ = some (.int .i64 0) := (blk_cell hbox 1).trans rfl; have hz2 : w5.cell? ⟨gv, 2, none⟩ = some (.string ⟨#[]⟩) := (blk_cell hbox 2).trans rfl; have hzf0 := blk_frozen hbox 0; have hzf1 := blk_frozen hbox 1; have hzf2 := blk_frozen hbox 2; clear hbox hb hgv))
            have hgw0 : w.heap.size ≤ gv := by rw [HGV.out]; exact HB.out.size
            have HB6 := Aside0.mk (show Below w.heap.size w (((w5.setCell ⟨gv, 0, none⟩ (.int .i64 (rd_T129 l0 x).f0)).setCell ⟨gv, 1, none⟩ (.int .i64 (rd_T129 l0 x).f1)).setCell ⟨gv, 2, none⟩ (.string (rd_T129 l0 x).f2)) from below_set (below_set (below_set (below_step HB.out HB5.out) hgw0) hgw0) hgw0)
            have hv6 := blk_put (cs := #[.int .i64 (rd_T129 l0 x).f0, .int .i64 (rd_T129 l0 x).f1, .string ⟨#[]⟩]) (blk_put (cs := #[.int .i64 (rd_T129 l0 x).f0, .int .i64 0, .string ⟨#[]⟩]) (blk_put HV5.out 0 (.int .i64 (rd_T129 l0 x).f0) rfl) 1 (.int .i64 (rd_T129 l0 x).f1) rfl) 2 (.string (rd_T129 l0 x).f2) rfl
            clear hz0 hz1 hz2 hzf0 hzf1 hzf2 hgw0 HV5 HB5 HGV hx0 hx1 hx2
            clear HB
            have HB := HB6
            clear HB6
            generalize (((w5.setCell ⟨gv, 0, none⟩ (.int .i64 (rd_T129 l0 x).f0)).setCell ⟨gv, 1, none⟩ (.int .i64 (rd_T129 l0 x).f1)).setCell ⟨gv, 2, none⟩ (.string (rd_T129 l0 x).f2)) = w6 at HB hv6 ⊢
            have hy0 : w6.cell? ⟨gv, 0, none⟩ = some (.int .i64 (rd_T129 l0 x).f0) := (blk_cell hv6 0).trans rfl
            have hy1 : w6.cell? ⟨gv, 1, none⟩ = some (.int .i64 (rd_T129 l0 x).f1) := (blk_cell hv6 1).trans rfl
            have hy2 : w6.cell? ⟨gv, 2, none⟩ = some (.string (rd_T129 l0 x).f2) := (blk_cell hv6 2).trans rfl
            clear hv6
            have H := HH.out
            clear HH
            by_cases c8 : cc = 0
            · rw [if_pos c8] at H
              subst c8
              have HH := Aside0.mk H
              clear H
              go_wp2_with (first | (go_at_call 119; refine (impl_valFault.calls k2 _ _ _ 0 _ A7.out).mono ?_; rintro e w9 ⟨rfl, hb⟩; have n0_ := Aside0.mk (below_step HB.out hb); clear HB; have HB := n0_; clear n0_ hb))
              go_roundg k2
              case measure => have := HK.out; omega
              case rel => exact ⟨wrap64 (x + 1), (by first | rfl | (simp; done)), HH, ⟨by have := HK.out; omega⟩, HB⟩
            · rw [if_neg c8] at H
              have c8b1 : (cc != 0) = true := bne_iff_ne.mpr c8
              obtain rfl := Option.some.inj H
              go_wp2_with (first | (go_at_call 119; refine (impl_valFault.calls k2 _ _ _ cc _ A7.out).mono ?_; rintro e w9 ⟨rfl, hb⟩; have n0_ := Aside0.mk (below_step HB.out hb); clear HB; have HB := n0_; clear n0_ hb))
              go_ret
              exact ⟨rfl, HB.out⟩
          · rw [if_neg c6] at H; cases H
        · rw [if_neg c5] at H
          have c5b0 : decide (x < (l0.length : Int)) = false := decide_eq_false c5
          clear c5
          obtain ⟨⟨s1, s2, s3, s4⟩, hv, H⟩ := Option.bind_eq_some_iff.mp H
          have HV := Aside0.mk hv
          have HH := Aside0.mk H
          clear hv H
          go_upto_region 11 with (first | ((with_reducible refine gate_dst (N := 26) rfl ?_); refine box_event ?hg (N := 26) ?hd (cs := #[.slice A0 l0.length c0, .bool false, .bool false, .bool false]) (t := 134) ?hr ?_; (case hd => rfl); (case hg => rfl); (case hr => first | (go_simp; done) | (go_simp; rfl)); intro g hg w5 hbox hb; have HV5 := Aside0.mk hbox; have HB5 := Aside0.mk (below_step HB.out hb); have HGV := Aside0.mk (show w.heap.size ≤ g by rw [hg]; exact HB.out.size); clear hbox hb hg))
          go_upto_block 2 with (first | (go_at_call 120; refine (impl_structure_value.calls g l0 false false false 0 0 s1 s2 s3 s4 w _ ⟨A0, c0, HV5.out, HGV.out, HR0.out⟩ HB5.out HV.out).mono ?_; rintro e w8 ⟨rfl, ⟨A8, c8, hb8, _, _⟩, hbl8, _⟩; have HB8 := Aside0.mk hbl8; have HV8 := Aside0.mk hb8; clear hb8 hbl8))
          have h1 : w8.cell? ⟨g, 1, none⟩ = some (.bool s2) := (blk_cell HV8.out 1).trans rfl
          have h2 : w8.cell? ⟨g, 2, none⟩ = some (.bool s3) := (blk_cell HV8.out 2).trans rfl
          have h3 : w8.cell? ⟨g, 3, none⟩ = some (.bool s4) := (blk_cell HV8.out 3).trans rfl
          have H := HH.out
          clear HH
          cases s2 with
          | true =>
            obtain rfl := Option.some.inj H
            go_wp2
            go_ret
            exact ⟨rfl, HB8.out⟩
          | false =>
            replace H : (if s1 = (l0.length : Int) then (if s3 = true then some 6 else if s4 = true then some 2 else some 0) else some 1) = some r := H
            by_cases c9 : s1 = (l0.length : Int)
            · rw [if_pos c9] at H
              have c9b : (s1 != (l0.length : Int)) = false := bne_eq_false_iff_eq.mpr c9
              clear c9
              cases s3 with
              | true =>
                obtain rfl := Option.some.inj H
                go_wp2
                go_ret
                exact ⟨rfl, HB8.out⟩
              | false =>
                cases s4 with
                | true =>
                  obtain rfl := Option.some.inj H
                  go_wp2
                  go_ret
                  exact ⟨rfl, HB8.out⟩
                | false =>
                  obtain rfl := Option.some.inj H
                  go_wp2
                  go_ret
                  exact ⟨rfl, HB8.out⟩
            · rw [if_neg c9] at H
              have c9b : (s1 != (l0.length : Int)) = true := bne_iff_ne.mpr c9
              clear c9
              obtain rfl := Option.some.inj H
              go_wp2
              go_ret
              exact ⟨rfl, HB8.out⟩
  · rw [if_neg c1] at h
    have c1' := Bool.eq_false_iff.mpr c1
    subst c1'
    obtain rfl := Option.some.inj h
    go_enter Try.func46, Try.ntmps46
    go_wp2_with (first | (go_at_call 110; refine (impl_in.calls _ _ _ false _ HT.out).mono ?_; rintro e w3 ⟨rfl, hd⟩; have HB := Aside0.mk hd.below; clear hd))
    go_ret
    exact ⟨rfl, HB.out⟩

/-! ### impl_Val: function 176 (by hand: a slice compared with nil) -/
def impl_Val.f (l0 : List (S129)) : Option (List (S129)) := if l0.length < 4398046511104 then some l0 else none
set_option maxHeartbeats 8000000 in
set_option maxRecDepth 100000 in
theorem impl_Val.calls (A0 : Option Addr) (c0 : Nat) (l0 : List (S129)) (r : List (S129)) (w : World) (hr0 : Kd.C k129 w A0 l0.length l0) (hc0 : l0.length ≤ c0) (h : impl_Val.f l0 = some r) :
    Calls Try.prog 176 #[.slice A0 l0.length c0] w fun e w' => ∃ v0_ : Value, e = .returned (v0_) ∧ Kd.R k129 129 w' w.heap.size (fun _ => True) v0_ r ∧ Below w.heap.size w w' := by
  have q_ : ∀ (w : World) (a : Option Addr) (n c n' c' : Nat), (binOp .eql 57 (.slice a n c) (.slice none n' c')).run Try.prog w = .ok (.bool a.isNone) w := fun w a n c n' c' => Lib.run_eql_slice_nil w _ _ a n c n' c' Try.underlying57
  unfold impl_Val.f at h
  by_cases c : l0.length < 4398046511104
  · rw [if_pos c] at h
    obtain rfl := Option.some.inj h
    clear h
    cases A0 with
    | none =>
      have e : l0 = [] := by
        by_cases hp : 0 < l0.length
        · obtain ⟨a, ha, _⟩ := hr0.2.2 hp
          cases ha
        · exact List.length_eq_zero_iff.1 (by omega)
      subst e
      clear hr0
      go_enter Try.func176, Try.ntmps176
      go_wp2
      go_ret
      exact ⟨_, rfl, Kd.R_nil _ _ _ _ _, Below.refl _ _⟩
    | some ad =>
      have HR0 := Aside0.mk hr0
      have HL := Aside0.mk c
      clear hr0 c
      go_enter Try.func176, Try.ntmps176
      go_wp2_with (first | ((with_reducible refine gate_dst (N := 5) rfl ?_); refine Kd.R_lit k129 _ 129 ?hg (N := 5) ?hd (xs := ([] : List (S129))) (inner := []) (ok := fun _ => True) (okp := fun _ => True) ?hr ?hp (fun _ hk => hk) trivial (Below.refl _ _) (Nat.le_refl _) (by simp) ?_; (case hd => rfl); (case hg => rfl); (case hr => first | (go_simp; done) | (go_simp; rfl)); (case hp => exact (Reps.none _ _)); intro v162 w3 ho4 hb hg_ hnew_; clear hg_ hnew_; have HO163 := Aside0.mk (Kd.R_lower ho4 (Nat.le_refl _)); have HB := Aside0.mk hb; clear hb ho4) | ((with_reducible refine gate_builtin (b := .append) (xs := #[.tmp 5, .tmp 6]) rfl ?_); at_builtin; refine Kd.R_append_rows k129 (w0 := w) w.heap.size rfl (.tmp 5) (.tmp 6) 57 129 (.agg #[(.int .i64 0), (.int .i64 0), (.string ⟨#[]⟩)]) 32 rfl Try.underlying57 info129 rfl (by decide) (by omega) v162 ([] : List (S129)) l0 _ _ _ (fun _ => True) (fun _ => False) rfl rfl ?aO ?aR (fun _ _ h => h) (fun _ h => h.elim) ?aF ?aB ?aS ?aL ?_; (case aR => repeat (first | exact (Kd.C_below HR0.out HB.out) | (with_reducible refine Kd.C_alloc ?_ _) | (with_reducible refine Kd.C_drewN ?_ _) | (with_reducible refine Kd.C_drew ?_))); (case aB => exact (by repeat (first | (with_reducible first | exact HB.out | apply below_alloc | apply pw_below_drewN | apply below_drew1) | exact HB.out))); (case aF => exact (fun _ _ => trivial)); (case aO => exact (by (with_reducible repeat (first | apply Kd.R_alloc | apply Kd.R_drewN | apply Kd.R_drew)); exact HO163.out)); (case aS => exact (below_size (by repeat (first | (with_reducible first | exact HB.out | apply below_alloc | apply pw_below_drewN | apply below_drew1) | exact HB.out)))); (case aL => have := HL.out; simp; omega); intro v165 w5 ho hb hg hat; have n0_ := Aside0.mk (hb); have n1_ := Aside0.mk (ho); clear HB; clear HO163; have HB := n0_; have HO166 := n1_; clear n0_ n1_; clear ho hb hg hat))
      go_ret
      exact ⟨_, rfl, HO166.out, HB.out⟩
  · rw [if_neg c] at h; cases h

/-! ### impl_entry: function 139 (by hand: a state in a box; a slice that may be nil) -/
def impl_entry.l0 : Nat → List S129 → ByteArray → Int → Bool → Bool → Bool → Int → Int → Option (List S129)
  | 0, _, _, _, _, _, _, _, _ => none
  | k + 1, l, nm, num, f, t, m, a, n => if n < num then (if 0 ≤ a ∧ a < l.length ∧ l.length ≤ 1000000 ∧ 0 ≤ n ∧ n ≤ 1000000 then ((impl_structure_value.f l f t m (a + 1) 0).bind fun r => if ((rd_T129 l a).f2).toList = nm.toList then (if a + 1 < r.1 ∧ r.1 ≤ l.length then some ((l.take r.1.toNat).drop (a + 1).toNat) else none) else impl_entry.l0 k l nm num r.2.1 r.2.2.1 r.2.2.2 r.1 (n + 1)) else none) else some []
def impl_entry.f (k : Nat) (l0 : List S129) (a1 : ByteArray) : Option (List S129) := if 0 < (l0.length : Int) then impl_entry.l0 k l0 a1 (rd_T129 l0 0).f1 false false false 1 0 else none
theorem impl_entry.mono_l : ∀ k l nm num f t m a n, LeO (impl_entry.l0 k l nm num f t m a n) (impl_entry.l0 (k + 1) l nm num f t m a n)
  | 0 => fun _ _ _ _ _ _ _ _ r h => by simp [impl_entry.l0] at h
  | k + 1 => by
    intro l nm num f t m a n r h
    unfold impl_entry.l0 at h ⊢
    by_cases c1 : n < num
    · rw [if_pos c1] at h ⊢
      by_cases c2 : 0 ≤ a ∧ a < l.length ∧ l.length ≤ 1000000 ∧ 0 ≤ n ∧ n ≤ 1000000
      · rw [if_pos c2] at h ⊢
        obtain ⟨q, h1, h2⟩ := Option.bind_eq_some_iff.mp h
        refine Option.bind_eq_some_iff.mpr ⟨q, h1, ?_⟩
        by_cases c3 : ((rd_T129 l a).f2).toList = nm.toList
        · rw [if_pos c3] at h2 ⊢; exact h2
        · rw [if_neg c3] at h2 ⊢; exact impl_entry.mono_l k _ _ _ _ _ _ _ _ r h2
      · rw [if_neg c2] at h; cases h
    · rw [if_neg c1] at h ⊢; exact h
theorem impl_entry.mono : ∀ a0 a1 k, LeO (impl_entry.f k a0 a1) (impl_entry.f (k + 1) a0 a1) := by
  intro a0 a1 k r h
  unfold impl_entry.f at h ⊢
  by_cases c : 0 < (a0.length : Int)
  · rw [if_pos c] at h ⊢; exact impl_entry.mono_l k _ _ _ _ _ _ _ _ r h
  · rw [if_neg c] at h; cases h
set_option maxHeartbeats 4000000 in
set_option maxRecDepth 100000 in
theorem impl_entry.calls (k : Nat) (A0 : Option Addr) (c0 : Nat) (l0 : List (S129)) (a1 : ByteArray) (r : List (S129)) (w : World) (hr0 : Kd.C k129 w A0 l0.length l0) (hc0 : l0.length ≤ c0) (h : impl_entry.f k l0 a1 = some r) :
    Calls Try.prog 139 #[.slice A0 l0.length c0, .string a1] w fun e w' => ∃ v0_ : Value, e = .returned (v0_) ∧ Kd.R k129 129 w' w.heap.size (fun _ => True) v0_ r ∧ (r = [] → v0_ = .slice none 0 0) ∧ Below w.heap.size w w' := by
  have hu129 := Try.underlying129
  have hu134 := Try.underlying134
  have HR0 := Aside0.mk hr0
  have HC0 := Aside0.mk hc0
  clear hr0 hc0
  unfold impl_entry.f at h
  by_cases c1 : 0 < (l0.length : Int)
  · rw [if_pos c1] at h
    have HC2 := Aside0.mk h
    clear h
    have HB := Aside0.mk (Below.refl w.heap.size w)
    obtain ⟨ad, e, hx0, hx1, hx2⟩ := at_T129 HR0.out 0 (by omega) c1
    cases e
    have c1b0 : decide (0 < (l0.length : Int)) = true := decide_eq_true c1
    have c1b1 : decide (0 < l0.length) = true := decide_eq_true (by omega)
    have p5 : (0 ≤ (0 : Int)) = True := eq_true (by omega)
    have q5 := eq_true c1
    have qi5 : (0 < l0.length) = True := eq_true (by omega)
    (try rw [show ((0 : Int)).toNat = 0 from rfl] at hx1)
    (try rw [show 0 * 3 = 0 from rfl] at hx1)
    (try rw [Addr.add_zero'] at hx1)
    have HX1 := Aside0.mk hx1
    clear c1 hx0 hx1 hx2
    go_enter Try.func139, Try.ntmps139
    go_wp2_with (first | ((with_reducible refine gate_dst (N := 10) rfl ?_); refine box_event ?hg (N := 10) ?hd (cs := #[.slice (some ad) l0.length c0, .bool false, .bool false, .bool false]) (t := 134) ?hr ?_; (case hd => rfl); (case hg => rfl); (case hr => first | (go_simp; done) | (go_simp; rfl)); intro g hg w5 hbox hb; have HS := Aside0.mk (show IsS134 w w5 g l0 false false false from ⟨some ad, c0, hbox, by rw [hg]; exact Nat.le_refl _, HR0.out⟩); have HB5 := Aside0.mk hb; clear HB; have HB := HB5; clear HB5 hbox hb hg; have hx1 := (HB.out.cell (World.block_lt_of_cell? w _ HX1.out)).trans HX1.out))
    clear hx1
    go_loopg [6, 15] k (fun kq v6 v15 w' => ∃ (a n : Int) (f t m : Bool), v6 = .int .i64 a ∧ v15 = .int .i64 n ∧ Aside0 (impl_entry.l0 kq l0 a1 (rd_T129 l0 0).f1 f t m a n = some r) ∧ Aside0 (kq ≤ k) ∧ Aside0 (IsS134 w w' g l0 f t m) ∧ Aside0 (Below w.heap.size w w'))
    case atStart => exact ⟨1, 0, false, false, false, rfl, rfl, HC2, ⟨Nat.le_refl _⟩, HS, HB⟩
    case round =>
      clear HC2 HB HS
      obtain ⟨a, n, f, t, m, rfl, rfl, HA, HK, HS, HB⟩ := hrel
      cases gk with
      | zero => exact absurd HA.out (by simp [impl_entry.l0])
      | succ k2 =>
        have H := HA.out
        clear HA
        simp only [impl_entry.l0] at H
        by_cases c5 : n < (rd_T129 l0 0).f1
        · rw [if_pos c5] at H
          have c5b0 : decide (n < (rd_T129 l0 0).f1) = true := decide_eq_true c5
          clear c5
          by_cases c6 : 0 ≤ a ∧ a < l0.length ∧ l0.length ≤ 1000000 ∧ 0 ≤ n ∧ n ≤ 1000000
          · rw [if_pos c6] at H
            have hwa : wrap64 (a + 1) = a + 1 := by unfold wrap64; omega
            have hwn : wrap64 (n + 1) = n + 1 := by unfold wrap64; omega
            have p6 := eq_true c6.1
            have q6 := eq_true c6.2.1
            obtain ⟨ad2, e2, hy0, hy1, hy2⟩ := at_T129 HR0.out a c6.1 c6.2.1
            obtain rfl : ad = ad2 := by injection e2
            have HY2 := Aside0.mk hy2
            have HG := Aside0.mk c6
            clear c6 hy0 hy1 hy2 e2
            obtain ⟨⟨s1, s2, s3, s4⟩, hv, H⟩ := Option.bind_eq_some_iff.mp H
            have HV := Aside0.mk hv
            clear hv
            go_upto_region 5 with (first | (go_at_call 120; (try rw [i64_w]); (try rw [hwa]); refine (impl_structure_value.calls g l0 f t m (a + 1) 0 s1 s2 s3 s4 w _ HS.out HB.out HV.out).mono ?_; rintro e w8 ⟨rfl, hs8, hb8, _⟩; have HS8 := Aside0.mk hs8; have HB8 := Aside0.mk hb8; clear HS HB hs8 hb8; have HS := HS8; have HB := HB8; clear HS8 HB8))
            have hy2 := (HB.out.cell (World.block_lt_of_cell? w _ HY2.out)).trans HY2.out
            by_cases c8 : ((rd_T129 l0 a).f2).toList = a1.toList
            · replace H : (if ((rd_T129 l0 a).f2).toList = a1.toList then (if a + 1 < s1 ∧ s1 ≤ l0.length then some ((l0.take s1.toNat).drop (a + 1).toNat) else none) else impl_entry.l0 k2 l0 a1 (rd_T129 l0 0).f1 s2 s3 s4 s1 (n + 1)) = some r := H
              rw [if_pos c8] at H
              have c8b0 : (((rd_T129 l0 a).f2).toList == a1.toList) = true := beq_iff_eq.mpr c8
              clear c8
              by_cases c9 : a + 1 < s1 ∧ s1 ≤ l0.length
              · rw [if_pos c9] at H
                obtain ⟨y, hy⟩ : ∃ y, y = (l0.take s1.toNat).drop (a + 1).toNat := ⟨_, rfl⟩
                rw [← hy] at H
                obtain rfl := Option.some.inj H
                obtain ⟨i017, hi017, _, hsz17, _⟩ := info_parts info129
                have hg1 := HG.out
                have hcut17 := cut_mid (P := Try.prog) 57 129 .i64 .i64 Try.underlying57 hi017 3 hsz17 (some ad) l0.length c0 (a + 1) s1 (by omega) (by omega) c9.2 HC0.out
                have hr17 := Kd.C_mid (lo := (a + 1).toNat) (hi := s1.toNat) (c := c0) HR0.out (by omega) (by omega) HC0.out
                obtain ⟨A17, hA17⟩ : ∃ A1, A1 = (if c0 = (a + 1).toNat then (some ad) else ((some ad) : Option Addr).map (·.add ((a + 1).toNat * 3))) := ⟨_, rfl⟩
                obtain ⟨c17, hc17⟩ : ∃ c1, c1 = c0 - (a + 1).toNat := ⟨_, rfl⟩
                have hyl : y.length = s1.toNat - (a + 1).toNat := by rw [hy, List.length_drop, List.length_take]; omega
                rw [← hy] at hr17
                replace hr17 : Kd.C k129 w A17 y.length y := by rw [hA17]; exact hr17
                rw [← hyl, ← hA17, ← hc17] at hcut17
                have HR17 := Aside0.mk hr17
                have hc0' := HC0.out
                have HC17 := Aside0.mk (show y.length ≤ c17 by rw [hyl, hc17]; omega)
                have HN := Aside0.mk (show y ≠ [] by intro e; rw [e] at hyl; simp at hyl; omega)
                have HCL := Aside0.mk (show impl_Val.f y = some y by unfold impl_Val.f; rw [if_pos (by rw [hyl]; omega)])
                clear hg1 hi017 hsz17 hr17 hA17 hc17 hy hyl hc0' c9 H
                go_wp2_with (first | (go_at_call 176; refine (impl_Val.calls _ _ _ _ _ (Kd.C_below HR17.out HB.out) HC17.out HCL.out).mono ?_; rintro e w9 ⟨v9, rfl, ho9, hb9⟩; have HO := Aside0.mk (Kd.R_lower ho9 HB.out.size); have n0_ := Aside0.mk (below_step HB.out hb9); clear HB; have HB := n0_; clear n0_ ho9 hb9))
                go_ret
                exact ⟨_, rfl, HO.out, fun e => absurd e HN.out, HB.out⟩
              · rw [if_neg c9] at H; cases H
            · replace H : (if ((rd_T129 l0 a).f2).toList = a1.toList then (if a + 1 < s1 ∧ s1 ≤ l0.length then some ((l0.take s1.toNat).drop (a + 1).toNat) else none) else impl_entry.l0 k2 l0 a1 (rd_T129 l0 0).f1 s2 s3 s4 s1 (n + 1)) = some r := H
              rw [if_neg c8] at H
              have c8b0 : (((rd_T129 l0 a).f2).toList == a1.toList) = false := beq_eq_false_iff_ne.mpr c8
              have HH := Aside0.mk H
              clear c8 H
              go_wp2
              go_roundg k2
              case measure => have := HK.out; omega
              case rel => exact ⟨s1, n + 1, s2, s3, s4, rfl, (by first | rfl | (simp [hwn]; done)), HH, ⟨by have := HK.out; omega⟩, HS, HB⟩
          · rw [if_neg c6] at H; cases H
        · rw [if_neg c5] at H
          have c5b0 : decide (n < (rd_T129 l0 0).f1) = false := decide_eq_false c5
          obtain rfl := Option.some.inj H
          clear c5 H
          go_wp2
          go_ret
          exact ⟨_, rfl, Kd.R_nil _ _ _ _ _, (by first | exact rfl | exact fun _ => rfl), HB.out⟩
  · rw [if_neg c1] at h; cases h

/-! ### impl_MapEntry: function 67 (by hand: a slice that may be nil) -/
def impl_MapEntry.f (k : Nat) (l0 : List (S129)) (a1 : ByteArray) : Option (Int × (List (S129))) := (impl_ValsFault.f k l0).bind fun t => if t = 0 then (if 0 < (l0.length : Int) then (if (rd_T129 l0 0).f0 = 6 then ((impl_entry.f k l0 a1).bind fun y => if y.length = 0 then some (4, []) else some (0, y)) else some (1, [])) else none) else some (t, [])
theorem impl_MapEntry.mono : ∀ a0 a1 k, LeO (impl_MapEntry.f k a0 a1) (impl_MapEntry.f (k + 1) a0 a1) := by
  intro a0 a1 k r h
  unfold impl_MapEntry.f at h ⊢
  obtain ⟨t, h1, h2⟩ := Option.bind_eq_some_iff.mp h
  refine Option.bind_eq_some_iff.mpr ⟨t, impl_ValsFault.mono _ _ _ h1, ?_⟩
  by_cases c1 : t = 0
  · rw [if_pos c1] at h2 ⊢
    by_cases c2 : 0 < (a0.length : Int)
    · rw [if_pos c2] at h2 ⊢
      by_cases c3 : (rd_T129 a0 0).f0 = 6
      · rw [if_pos c3] at h2 ⊢
        obtain ⟨y, h3, h4⟩ := Option.bind_eq_some_iff.mp h2
        exact Option.bind_eq_some_iff.mpr ⟨y, impl_entry.mono _ _ _ _ h3, h4⟩
      · rw [if_neg c3] at h2 ⊢; exact h2
    · rw [if_neg c2] at h2; cases h2
  · rw [if_neg c1] at h2 ⊢; exact h2
set_option maxHeartbeats 4000000 in
set_option maxRecDepth 100000 in
theorem impl_MapEntry.calls (k : Nat) (A0 : Option Addr) (c0 : Nat) (l0 : List (S129)) (a1 : ByteArray) (r1 : Int) (r2 : List (S129)) (w : World) (hr0 : Kd.C k129 w A0 l0.length l0) (hc0 : l0.length ≤ c0) (h : impl_MapEntry.f k l0 a1 = some (r1, r2)) :
    Calls Try.prog 67 #[.slice A0 l0.length c0, .string a1] w fun e w' => ∃ v1_ : Value, e = .returned (.agg #[.int .i64 r1, v1_]) ∧ Kd.R k129 129 w' w.heap.size (fun _ => True) v1_ r2 ∧ Below w.heap.size w w' := by
  have hu83 := Try.underlying83
  have q_ : ∀ (w : World) (a : Option Addr) (n c n' c' : Nat), (binOp .eql 57 (.slice a n c) (.slice none n' c')).run Try.prog w = .ok (.bool a.isNone) w := fun w a n c n' c' => Lib.run_eql_slice_nil w _ _ a n c n' c' Try.underlying57
  have HR0 := Aside0.mk hr0
  have HC0 := Aside0.mk hc0
  clear hr0 hc0
  have HB := Aside0.mk (Below.refl w.heap.size w)
  unfold impl_MapEntry.f at h
  obtain ⟨t, ht, h⟩ := Option.bind_eq_some_iff.mp h
  have HT := Aside0.mk ht
  clear ht
  by_cases c1 : t = 0
  · rw [if_pos c1] at h
    subst c1
    by_cases c2 : 0 < (l0.length : Int)
    · rw [if_pos c2] at h
      obtain ⟨ad, e, hx0, hx1, hx2⟩ := at_T129 HR0.out 0 (by omega) c2
      cases e
      have c2b0 : decide (0 < (l0.length : Int)) = true := decide_eq_true c2
      have c2b1 : decide (0 < l0.length) = true := decide_eq_true (by omega)
      have p5 : (0 ≤ (0 : Int)) = True := eq_true (by omega)
      have q5 := eq_true c2
      have qi5 : (0 < l0.length) = True := eq_true (by omega)
      (try rw [show ((0 : Int)).toNat = 0 from rfl] at hx0)
      (try rw [show 0 * 3 = 0 from rfl] at hx0)
      (try rw [Addr.add_zero'] at hx0)
      have HX0 := Aside0.mk hx0
      clear c2 hx0 hx1 hx2
      by_cases c3 : (rd_T129 l0 0).f0 = 6
      · rw [if_pos c3] at h
        have c3b : ((rd_T129 l0 0).f0 != 6) = false := bne_eq_false_iff_eq.mpr c3
        clear c3
        obtain ⟨y, hy, h⟩ := Option.bind_eq_some_iff.mp h
        have HY := Aside0.mk hy
        clear hy
        go_enter Try.func67, Try.ntmps67
        go_upto_region 7 with (first | ((with_reducible refine gate_dst (N := 4) rfl ?_); refine box_event ?hg (N := 4) ?hd (cs := #[.int .i64 0, .slice none 0 0]) (t := 83) ?hr ?_; (case hd => rfl); (case hg => rfl); (case hr => first | (go_simp; done) | (go_simp; rfl)); intro gb hg w4 hbox hb; have n0_ := Aside0.mk (below_step HB.out hb); have BK := Aside0.mk hbox; have GE := Aside0.mk (show w.heap.size ≤ gb by rw [hg]; exact HB.out.size); clear HB; have HB := n0_; clear n0_ hb hbox hg) | (go_at_call 46; refine (impl_ValsFault.calls k _ _ l0 0 _ (Kd.C_below HR0.out HB.out) HC0.out HT.out).mono ?_; rintro e w6 ⟨rfl, hb⟩; have BK2 := Aside0.mk (blk_below BK.out hb); have n0_ := Aside0.mk (below_step HB.out hb); clear HB BK; have HB := n0_; have BK := BK2; clear n0_ BK2 hb; have hx0 := (HB.out.cell (World.block_lt_of_cell? w _ HX0.out)).trans HX0.out) | (go_at_call 139; refine (impl_entry.calls k _ _ l0 a1 y _ (Kd.C_below HR0.out HB.out) HC0.out HY.out).mono ?_; rintro e w9 ⟨v9, rfl, ho9, hn9, hb9⟩; have HO := Aside0.mk (Kd.R_lower ho9 HB.out.size); have HN := Aside0.mk hn9; have BK2 := Aside0.mk (blk_below BK.out hb9); have n0_ := Aside0.mk (below_step HB.out hb9); clear HB BK hx0; have HB := n0_; have BK := BK2; clear n0_ BK2 ho9 hb9 hn9))
        have hcz0 : w9.cell? ⟨gb, 0, none⟩ = some (.int .i64 0) := (blk_cell BK.out 0).trans rfl
        have hcz1 : w9.cell? ⟨gb, 1, none⟩ = some (.slice none 0 0) := (blk_cell BK.out 1).trans rfl
        have hfz0 := blk_frozen BK.out 0
        have hfz1 := blk_frozen BK.out 1
        by_cases c4 : y.length = 0
        · rw [if_pos c4] at h
          simp only [Option.some.injEq, Prod.mk.injEq] at h
          obtain ⟨rfl, rfl⟩ := h
          obtain rfl := List.eq_nil_of_length_eq_zero c4
          obtain rfl := HN.out rfl
          clear c4 HN
          go_wp2
          refine bodyPost_ret (results_cell_row rfl _ _ gb 83 #[.int .i64 4, .slice none 0 0] (0, 0) _ rfl (by refine blk_put (cs := #[.int .i64 4, .slice none 0 0]) ?_ 1 _ rfl; refine blk_put (cs := #[.int .i64 0, .slice none 0 0]) ?_ 0 _ rfl; exact BK.out) Try.underlying83 rfl (by kernel_rfl)) rfl ?_
          exact ⟨_, rfl, Kd.R_nil _ _ _ _ _, below_set (below_set HB.out GE.out) GE.out⟩
        · rw [if_neg c4] at h
          simp only [Option.some.injEq, Prod.mk.injEq] at h
          obtain ⟨rfl, rfl⟩ := h
          obtain ⟨go, co, eo, gbo, glo, _⟩ := Kd.R_form HO.out (by omega)
          subst eo
          clear c4 HN
          go_wp2
          refine bodyPost_ret (results_cell_row rfl _ _ gb 83 #[.int .i64 0, .slice (some ⟨go, 0, none⟩) y.length co] (0, 0) _ rfl (by refine blk_put (cs := #[.int .i64 0, .slice none 0 0]) ?_ 1 _ rfl; refine blk_put (cs := #[.int .i64 0, .slice none 0 0]) ?_ 0 _ rfl; exact BK.out) Try.underlying83 rfl (by kernel_rfl)) rfl ?_
          exact ⟨_, rfl, Kd.R_mono (Kd.R_far (p := ⟨gb, 1, none⟩) (Kd.R_far (p := ⟨gb, 0, none⟩) (Kd.R_types HO.out BK.out (by decide)) (fun _ hk => hk.2) _) (fun _ hk => hk.2) _) (fun _ hk => trivial), below_set (below_set HB.out GE.out) GE.out⟩
      · rw [if_neg c3] at h
        have c3b : ((rd_T129 l0 0).f0 != 6) = true := bne_iff_ne.mpr c3
        clear c3
        simp only [Option.some.injEq, Prod.mk.injEq] at h
        obtain ⟨rfl, rfl⟩ := h
        go_enter Try.func67, Try.ntmps67
        go_wp2_with (first | ((with_reducible refine gate_dst (N := 4) rfl ?_); refine box_event ?hg (N := 4) ?hd (cs := #[.int .i64 0, .slice none 0 0]) (t := 83) ?hr ?_; (case hd => rfl); (case hg => rfl); (case hr => first | (go_simp; done) | (go_simp; rfl)); intro gb hg w4 hbox hb; have n0_ := Aside0.mk (below_step HB.out hb); have BK := Aside0.mk hbox; have GE := Aside0.mk (show w.heap.size ≤ gb by rw [hg]; exact HB.out.size); clear HB; have HB := n0_; clear n0_ hb hbox hg) | (go_at_call 46; refine (impl_ValsFault.calls k _ _ l0 0 _ (Kd.C_below HR0.out HB.out) HC0.out HT.out).mono ?_; rintro e w6 ⟨rfl, hb⟩; have BK2 := Aside0.mk (blk_below BK.out hb); have n0_ := Aside0.mk (below_step HB.out hb); clear HB BK; have HB := n0_; have BK := BK2; clear n0_ BK2 hb; have hx0 := (HB.out.cell (World.block_lt_of_cell? w _ HX0.out)).trans HX0.out; have hcz0 : w6.cell? ⟨gb, 0, none⟩ = some (.int .i64 0) := (blk_cell BK.out 0).trans rfl; have hcz1 : w6.cell? ⟨gb, 1, none⟩ = some (.slice none 0 0) := (blk_cell BK.out 1).trans rfl; have hfz0 := blk_frozen BK.out 0; have hfz1 := blk_frozen BK.out 1))
        refine bodyPost_ret (results_cell_row rfl _ _ gb 83 #[.int .i64 1, .slice none 0 0] (0, 0) _ rfl (by refine blk_put (cs := #[.int .i64 1, .slice none 0 0]) ?_ 1 _ rfl; refine blk_put (cs := #[.int .i64 0, .slice none 0 0]) ?_ 0 _ rfl; exact BK.out) Try.underlying83 rfl (by kernel_rfl)) rfl ?_
        exact ⟨_, rfl, Kd.R_nil _ _ _ _ _, below_set (below_set HB.out GE.out) GE.out⟩
    · rw [if_neg c2] at h; cases h
  · rw [if_neg c1] at h
    have c1b : (t != 0) = true := bne_iff_ne.mpr c1
    clear c1
    simp only [Option.some.injEq, Prod.mk.injEq] at h
    obtain ⟨rfl, rfl⟩ := h
    go_enter Try.func67, Try.ntmps67
    go_wp2_with (first | ((with_reducible refine gate_dst (N := 4) rfl ?_); refine box_event ?hg (N := 4) ?hd (cs := #[.int .i64 0, .slice none 0 0]) (t := 83) ?hr ?_; (case hd => rfl); (case hg => rfl); (case hr => first | (go_simp; done) | (go_simp; rfl)); intro gb hg w4 hbox hb; have n0_ := Aside0.mk (below_step HB.out hb); have BK := Aside0.mk hbox; have GE := Aside0.mk (show w.heap.size ≤ gb by rw [hg]; exact HB.out.size); clear HB; have HB := n0_; clear n0_ hb hbox hg) | (go_at_call 46; refine (impl_ValsFault.calls k _ _ l0 t _ (Kd.C_below HR0.out HB.out) HC0.out HT.out).mono ?_; rintro e w6 ⟨rfl, hb⟩; have BK2 := Aside0.mk (blk_below BK.out hb); have n0_ := Aside0.mk (below_step HB.out hb); clear HB BK; have HB := n0_; have BK := BK2; clear n0_ BK2 hb; have hcz0 : w6.cell? ⟨gb, 0, none⟩ = some (.int .i64 0) := (blk_cell BK.out 0).trans rfl; have hcz1 : w6.cell? ⟨gb, 1, none⟩ = some (.slice none 0 0) := (blk_cell BK.out 1).trans rfl; have hfz0 := blk_frozen BK.out 0; have hfz1 := blk_frozen BK.out 1))
    refine bodyPost_ret (results_cell_row rfl _ _ gb 83 #[.int .i64 t, .slice none 0 0] (0, 0) _ rfl (by refine blk_put (cs := #[.int .i64 t, .slice none 0 0]) ?_ 1 _ rfl; refine blk_put (cs := #[.int .i64 0, .slice none 0 0]) ?_ 0 _ rfl; exact BK.out) Try.underlying83 rfl (by kernel_rfl)) rfl ?_
    exact ⟨_, rfl, Kd.R_nil _ _ _ _ _, below_set (below_set HB.out GE.out) GE.out⟩

/-! ### laws_eqValsResult: function 68 -/
def laws_eqValsResult.f (k : Nat) (a0_0 : Int) (l0_1 : List (S129)) (a1_0 : Int) (l1_1 : List (S129)) : Option (Bool) := if a0_0 = a1_0 then ((laws_eqValS.f k l0_1 l1_1).bind fun t191 => (if t191 = true then (some true) else (some false))) else (some false)
theorem laws_eqValsResult.mono : ∀ a0 a1 a2 a3 k, LeO (laws_eqValsResult.f k a0 a1 a2 a3) (laws_eqValsResult.f (k + 1) a0 a1 a2 a3) := by
  intro a0 a1 a2 a3 k
  unfold laws_eqValsResult.f
  repeat' first
      | (with_reducible exact laws_eqValS.mono _ _ _)
      | (with_reducible exact LeO.refl _)
      | (with_reducible exact LeO.none _)
      | (with_reducible refine LeO.ite ?_ ?_)
      | (with_reducible refine LeO.bind ?_ (fun _ => ?_))
      | exact laws_eqValS.mono _ _ _
      | exact LeO.none _
      | refine LeO.ite ?_ ?_
      | refine LeO.bind ?_ (fun _ => ?_)
set_option maxHeartbeats 8000000 in
set_option maxRecDepth 100000 in
theorem laws_eqValsResult.calls (k : Nat) (a0_0 : Int) (A0_1 : Option Addr) (c0_1 : Nat) (l0_1 : List (S129)) (a1_0 : Int) (A1_1 : Option Addr) (c1_1 : Nat) (l1_1 : List (S129)) (r : Bool) (w : World) (hr0_1 : Kd.C k129 w A0_1 l0_1.length l0_1) (hc0_1 : l0_1.length ≤ c0_1) (hr1_1 : Kd.C k129 w A1_1 l1_1.length l1_1) (hc1_1 : l1_1.length ≤ c1_1) (h : laws_eqValsResult.f k a0_0 l0_1 a1_0 l1_1 = some r) :
    Calls Try.prog 68 #[.agg #[.int .i64 a0_0, .slice A0_1 l0_1.length c0_1], .agg #[.int .i64 a1_0, .slice A1_1 l1_1.length c1_1]] w fun e w' => e = .returned (.bool r) ∧ Below w.heap.size w w' := by
  have hu83 := Try.underlying83
  have HR0_1 := Aside0.mk hr0_1
  have HC0_1 := Aside0.mk hc0_1
  clear hr0_1 hc0_1
  have HR1_1 := Aside0.mk hr1_1
  have HC1_1 := Aside0.mk hc1_1
  clear hr1_1 hc1_1
  have HB := Aside0.mk (Below.refl w.heap.size w)
  have H : (if a0_0 = a1_0 then ((laws_eqValS.f k l0_1 l1_1).bind fun t191 => (if t191 = true then (some true) else (some false))) else (some false)) = some r := h
  clear h
  by_cases c3 : a0_0 = a1_0
  · rw [if_pos c3] at H
    have c3b0 : (a0_0 == a1_0) = true := beq_iff_eq.mpr c3
    have c3b1 : (a0_0 != a1_0) = false := bne_eq_false_iff_eq.mpr c3
    clear c3
    replace H := Option.bind_eq_some_iff.mp H
    obtain ⟨t191, A40, H⟩ := H
    replace H : (if t191 = true then (some true) else (some false)) = some r := H
    have A4 := Aside0.mk A40
    clear A40
    by_cases c5 : t191 = true
    · subst c5
      have H1 : (some true) = some r := by rw [if_pos rfl] at H; exact H
      clear H
      have H := H1
      clear H1
      obtain rfl := Option.some.inj H
      go_enter Try.func68, Try.ntmps68
      go_wp2_with (first | ((with_reducible refine gate_dst (N := 2) rfl ?_); refine box_event ?hg (N := 2) ?hd (cs := #[.int .i64 a0_0, .slice A0_1 l0_1.length c0_1]) (t := 83) ?hr ?_; (case hd => rfl); (case hg => rfl); (case hr => first | (go_simp; done) | (go_simp; rfl)); intro gb189 hg w6 hbox hb; have n0_ := Aside0.mk (below_step (by repeat (first | (with_reducible first | exact HB.out | apply below_alloc | apply pw_below_drewN | apply below_drew1) | exact HB.out)) hb); have n1_ := Aside0.mk (hbox); have n2_ := Aside0.mk ((by rw [hg]; exact (below_size (by repeat (first | (with_reducible first | exact HB.out | apply below_alloc | apply pw_below_drewN | apply below_drew1) | exact HB.out))) : w.heap.size ≤ gb189)); have n3_ := Aside0.mk ((by rw [hg]; exact (below_size (by repeat (first | (with_reducible first | exact HB.out | apply below_alloc | apply pw_below_drewN | apply below_drew1) | exact HB.out))) : w.heap.size ≤ gb189)); clear HB; have HB := n0_; have BK189 := n1_; have GW189 := n2_; have GE189 := n3_; clear n0_ n1_ n2_ n3_; clear hb hbox hg) | ((with_reducible refine gate_dst (N := 3) rfl ?_); refine box_event ?hg (N := 3) ?hd (cs := #[.int .i64 a1_0, .slice A1_1 l1_1.length c1_1]) (t := 83) ?hr ?_; (case hd => rfl); (case hg => rfl); (case hr => first | (go_simp; done) | (go_simp; rfl)); intro gb190 hg w7 hbox hb; have n0_ := Aside0.mk (blk_below (g := gb189) (o := .cells #[.int .i64 a0_0, .slice A0_1 l0_1.length c0_1] 83 (0, 0)) (by (with_reducible repeat (first | refine blk_drewN ?_ _ | refine blk_drew ?_ | refine blk_alloc ?_ _)); exact BK189.out) hb); have n1_ := Aside0.mk (below_step (by repeat (first | (with_reducible first | exact HB.out | apply below_alloc | apply pw_below_drewN | apply below_drew1 | refine below_set ?_ GE189.out) | exact HB.out)) hb); have n2_ := Aside0.mk (hbox); have n3_ := Aside0.mk ((by rw [hg]; exact (below_size (by repeat (first | (with_reducible first | exact HB.out | apply below_alloc | apply pw_below_drewN | apply below_drew1 | refine below_set ?_ GE189.out) | exact HB.out))) : w.heap.size ≤ gb190)); have n4_ := Aside0.mk ((by rw [hg]; exact (below_size (by repeat (first | (with_reducible first | exact HB.out | apply below_alloc | apply pw_below_drewN | apply below_drew1 | refine below_set ?_ GE189.out) | exact HB.out))) : w.heap.size ≤ gb190)); have n5_ := Aside0.mk ((by rw [hg]; exact Nat.ne_of_lt (blk_lt (g := gb189) (o := .cells #[.int .i64 a0_0, .slice A0_1 l0_1.length c0_1] 83 (0, 0)) (by (with_reducible repeat (first | refine blk_drewN ?_ _ | refine blk_drew ?_ | refine blk_alloc ?_ _)); exact BK189.out)) : gb189 ≠ gb190)); have n6_ := Aside0.mk ((by rw [hg]; exact Nat.ne_of_gt (blk_lt (g := gb189) (o := .cells #[.int .i64 a0_0, .slice A0_1 l0_1.length c0_1] 83 (0, 0)) (by (with_reducible repeat (first | refine blk_drewN ?_ _ | refine blk_drew ?_ | refine blk_alloc ?_ _)); exact BK189.out)) : gb190 ≠ gb189)); clear BK189; clear HB; have BK189 := n0_; have HB := n1_; have BK190 := n2_; have GW190 := n3_; have GE190 := n4_; have NB189_190 := n5_; have NB190_189 := n6_; clear n0_ n1_ n2_ n3_ n4_ n5_ n6_; clear hb hbox hg; have hnb8 := NB189_190.out; have hnc8 := NB190_189.out; have hcz9_0 : w7.cell? ⟨gb189, 0, none⟩ = some (.int .i64 a0_0) := (blk_cell BK189.out 0).trans rfl; have hcz9_1 : w7.cell? ⟨gb189, 1, none⟩ = some (.slice A0_1 l0_1.length c0_1) := (blk_cell BK189.out 1).trans rfl; have hfz9_0 := blk_frozen BK189.out 0; have hfz9_1 := blk_frozen BK189.out 1; have hcz10_0 : w7.cell? ⟨gb190, 0, none⟩ = some (.int .i64 a1_0) := (blk_cell BK190.out 0).trans rfl; have hcz10_1 : w7.cell? ⟨gb190, 1, none⟩ = some (.slice A1_1 l1_1.length c1_1) := (blk_cell BK190.out 1).trans rfl; have hfz10_0 := blk_frozen BK190.out 0; have hfz10_1 := blk_frozen BK190.out 1) | ((with_reducible refine gate_callee (f := 47) rfl ?_); refine goesL_ (some 14) rfl rfl Try.func47 (by kernel_rfl) rfl #[.slice A0_1 l0_1.length c0_1, .slice A1_1 l1_1.length c1_1] rfl (by (try simp only [List.map_toArray, List.map_cons, List.map_nil]); first | done | rfl | (simp only [List.length_drop, List.length_take]; rfl)) ?_; (with_reducible refine (laws_eqValS.calls k _ _ l0_1 _ _ l1_1 true _ ?side1 ?side2 ?side3 ?side4 A4.out).mono ?_); (case side1 => repeat (first | exact (Kd.C_below HR0_1.out HB.out) | (with_reducible refine Kd.C_alloc ?_ _) | (with_reducible refine Kd.C_drewN ?_ _) | (with_reducible refine Kd.C_drew ?_))); (case side2 => exact HC0_1.out); (case side3 => repeat (first | exact (Kd.C_below HR1_1.out HB.out) | (with_reducible refine Kd.C_alloc ?_ _) | (with_reducible refine Kd.C_drewN ?_ _) | (with_reducible refine Kd.C_drew ?_))); (case side4 => exact HC1_1.out); rintro e w11 ⟨rfl, hb⟩; refine ⟨_, rfl, ?_⟩; have n0_ := Aside0.mk (blk_below (g := gb189) (o := .cells #[.int .i64 a0_0, .slice A0_1 l0_1.length c0_1] 83 (0, 0)) (by (with_reducible repeat (first | refine blk_drewN ?_ _ | refine blk_drew ?_ | refine blk_alloc ?_ _)); exact BK189.out) hb); have n1_ := Aside0.mk (blk_below (g := gb190) (o := .cells #[.int .i64 a1_0, .slice A1_1 l1_1.length c1_1] 83 (0, 0)) (by (with_reducible repeat (first | refine blk_drewN ?_ _ | refine blk_drew ?_ | refine blk_alloc ?_ _)); exact BK190.out) hb); have n2_ := Aside0.mk (below_step (by repeat (first | (with_reducible first | exact HB.out | apply below_alloc | apply pw_below_drewN | apply below_drew1 | refine below_set ?_ GE189.out | refine below_set ?_ GE190.out) | exact HB.out)) hb); clear BK189; clear BK190; clear HB; have BK189 := n0_; have BK190 := n1_; have HB := n2_; clear n0_ n1_ n2_; (try clear hb); (try clear hb2); (try clear hk); (try clear hi)))
      go_ret
      exact ⟨by first | rfl | (simp [errW_none, errW_some] <;> rfl) | (simp [*, errW_none, errW_some] <;> rfl), by repeat (first | (with_reducible first | exact HB.out | apply below_alloc | apply pw_below_drewN | apply below_drew1 | refine below_set ?_ GE189.out | refine below_set ?_ GE190.out) | exact HB.out)⟩
    · replace c5 := Bool.eq_false_iff.mpr c5
      subst c5
      have H1 : (some false) = some r := by rw [if_neg (show ¬ (false = true) by decide)] at H; exact H
      clear H
      have H := H1
      clear H1
      obtain rfl := Option.some.inj H
      go_enter Try.func68, Try.ntmps68
      go_wp2_with (first | ((with_reducible refine gate_dst (N := 2) rfl ?_); refine box_event ?hg (N := 2) ?hd (cs := #[.int .i64 a0_0, .slice A0_1 l0_1.length c0_1]) (t := 83) ?hr ?_; (case hd => rfl); (case hg => rfl); (case hr => first | (go_simp; done) | (go_simp; rfl)); intro gb189 hg w12 hbox hb; have n0_ := Aside0.mk (below_step (by repeat (first | (with_reducible first | exact HB.out | apply below_alloc | apply pw_below_drewN | apply below_drew1) | exact HB.out)) hb); have n1_ := Aside0.mk (hbox); have n2_ := Aside0.mk ((by rw [hg]; exact (below_size (by repeat (first | (with_reducible first | exact HB.out | apply below_alloc | apply pw_below_drewN | apply below_drew1) | exact HB.out))) : w.heap.size ≤ gb189)); have n3_ := Aside0.mk ((by rw [hg]; exact (below_size (by repeat (first | (with_reducible first | exact HB.out | apply below_alloc | apply pw_below_drewN | apply below_drew1) | exact HB.out))) : w.heap.size ≤ gb189)); clear HB; have HB := n0_; have BK189 := n1_; have GW189 := n2_; have GE189 := n3_; clear n0_ n1_ n2_ n3_; clear hb hbox hg) | ((with_reducible refine gate_dst (N := 3) rfl ?_); refine box_event ?hg (N := 3) ?hd (cs := #[.int .i64 a1_0, .slice A1_1 l1_1.length c1_1]) (t := 83) ?hr ?_; (case hd => rfl); (case hg => rfl); (case hr => first | (go_simp; done) | (go_simp; rfl)); intro gb190 hg w13 hbox hb; have n0_ := Aside0.mk (blk_below (g := gb189) (o := .cells #[.int .i64 a0_0, .slice A0_1 l0_1.length c0_1] 83 (0, 0)) (by (with_reducible repeat (first | refine blk_drewN ?_ _ | refine blk_drew ?_ | refine blk_alloc ?_ _)); exact BK189.out) hb); have n1_ := Aside0.mk (below_step (by repeat (first | (with_reducible first | exact HB.out | apply below_alloc | apply pw_below_drewN | apply below_drew1 | refine below_set ?_ GE189.out) | exact HB.out)) hb); have n2_ := Aside0.mk (hbox); have n3_ := Aside0.mk ((by rw [hg]; exact (below_size (by repeat (first | (with_reducible first | exact HB.out | apply below_alloc | apply pw_below_drewN | apply below_drew1 | refine below_set ?_ GE189.out) | exact HB.out))) : w.heap.size ≤ gb190)); have n4_ := Aside0.mk ((by rw [hg]; exact (below_size (by repeat (first | (with_reducible first | exact HB.out | apply below_alloc | apply pw_below_drewN | apply below_drew1 | refine below_set ?_ GE189.out) | exact HB.out))) : w.heap.size ≤ gb190)); have n5_ := Aside0.mk ((by rw [hg]; exact Nat.ne_of_lt (blk_lt (g := gb189) (o := .cells #[.int .i64 a0_0, .slice A0_1 l0_1.length c0_1] 83 (0, 0)) (by (with_reducible repeat (first | refine blk_drewN ?_ _ | refine blk_drew ?_ | refine blk_alloc ?_ _)); exact BK189.out)) : gb189 ≠ gb190)); have n6_ := Aside0.mk ((by rw [hg]; exact Nat.ne_of_gt (blk_lt (g := gb189) (o := .cells #[.int .i64 a0_0, .slice A0_1 l0_1.length c0_1] 83 (0, 0)) (by (with_reducible repeat (first | refine blk_drewN ?_ _ | refine blk_drew ?_ | refine blk_alloc ?_ _)); exact BK189.out)) : gb190 ≠ gb189)); clear BK189; clear HB; have BK189 := n0_; have HB := n1_; have BK190 := n2_; have GW190 := n3_; have GE190 := n4_; have NB189_190 := n5_; have NB190_189 := n6_; clear n0_ n1_ n2_ n3_ n4_ n5_ n6_; clear hb hbox hg; have hnb14 := NB189_190.out; have hnc14 := NB190_189.out; have hcz15_0 : w13.cell? ⟨gb189, 0, none⟩ = some (.int .i64 a0_0) := (blk_cell BK189.out 0).trans rfl; have hcz15_1 : w13.cell? ⟨gb189, 1, none⟩ = some (.slice A0_1 l0_1.length c0_1) := (blk_cell BK189.out 1).trans rfl; have hfz15_0 := blk_frozen BK189.out 0; have hfz15_1 := blk_frozen BK189.out 1; have hcz16_0 : w13.cell? ⟨gb190, 0, none⟩ = some (.int .i64 a1_0) := (blk_cell BK190.out 0).trans rfl; have hcz16_1 : w13.cell? ⟨gb190, 1, none⟩ = some (.slice A1_1 l1_1.length c1_1) := (blk_cell BK190.out 1).trans rfl; have hfz16_0 := blk_frozen BK190.out 0; have hfz16_1 := blk_frozen BK190.out 1) | ((with_reducible refine gate_callee (f := 47) rfl ?_); refine goesL_ (some 14) rfl rfl Try.func47 (by kernel_rfl) rfl #[.slice A0_1 l0_1.length c0_1, .slice A1_1 l1_1.length c1_1] rfl (by (try simp only [List.map_toArray, List.map_cons, List.map_nil]); first | done | rfl | (simp only [List.length_drop, List.length_take]; rfl)) ?_; (with_reducible refine (laws_eqValS.calls k _ _ l0_1 _ _ l1_1 false _ ?side1 ?side2 ?side3 ?side4 A4.out).mono ?_); (case side1 => repeat (first | exact (Kd.C_below HR0_1.out HB.out) | (with_reducible refine Kd.C_alloc ?_ _) | (with_reducible refine Kd.C_drewN ?_ _) | (with_reducible refine Kd.C_drew ?_))); (case side2 => exact HC0_1.out); (case side3 => repeat (first | exact (Kd.C_below HR1_1.out HB.out) | (with_reducible refine Kd.C_alloc ?_ _) | (with_reducible refine Kd.C_drewN ?_ _) | (with_reducible refine Kd.C_drew ?_))); (case side4 => exact HC1_1.out); rintro e w17 ⟨rfl, hb⟩; refine ⟨_, rfl, ?_⟩; have n0_ := Aside0.mk (blk_below (g := gb189) (o := .cells #[.int .i64 a0_0, .slice A0_1 l0_1.length c0_1] 83 (0, 0)) (by (with_reducible repeat (first | refine blk_drewN ?_ _ | refine blk_drew ?_ | refine blk_alloc ?_ _)); exact BK189.out) hb); have n1_ := Aside0.mk (blk_below (g := gb190) (o := .cells #[.int .i64 a1_0, .slice A1_1 l1_1.length c1_1] 83 (0, 0)) (by (with_reducible repeat (first | refine blk_drewN ?_ _ | refine blk_drew ?_ | refine blk_alloc ?_ _)); exact BK190.out) hb); have n2_ := Aside0.mk (below_step (by repeat (first | (with_reducible first | exact HB.out | apply below_alloc | apply pw_below_drewN | apply below_drew1 | refine below_set ?_ GE189.out | refine below_set ?_ GE190.out) | exact HB.out)) hb); clear BK189; clear BK190; clear HB; have BK189 := n0_; have BK190 := n1_; have HB := n2_; clear n0_ n1_ n2_; (try clear hb); (try clear hb2); (try clear hk); (try clear hi)))
      go_ret
      exact ⟨by first | rfl | (simp [errW_none, errW_some] <;> rfl) | (simp [*, errW_none, errW_some] <;> rfl), by repeat (first | (with_reducible first | exact HB.out | apply below_alloc | apply pw_below_drewN | apply below_drew1 | refine below_set ?_ GE189.out | refine below_set ?_ GE190.out) | exact HB.out)⟩
  · rw [if_neg c3] at H
    have c3b0 : (a0_0 == a1_0) = false := beq_eq_false_iff_ne.mpr c3
    have c3b1 : (a0_0 != a1_0) = true := bne_iff_ne.mpr c3
    obtain rfl := Option.some.inj H
    go_enter Try.func68, Try.ntmps68
    go_wp2_with (first | ((with_reducible refine gate_dst (N := 2) rfl ?_); refine box_event ?hg (N := 2) ?hd (cs := #[.int .i64 a0_0, .slice A0_1 l0_1.length c0_1]) (t := 83) ?hr ?_; (case hd => rfl); (case hg => rfl); (case hr => first | (go_simp; done) | (go_simp; rfl)); intro gb189 hg w18 hbox hb; have n0_ := Aside0.mk (below_step (by repeat (first | (with_reducible first | exact HB.out | apply below_alloc | apply pw_below_drewN | apply below_drew1) | exact HB.out)) hb); have n1_ := Aside0.mk (hbox); have n2_ := Aside0.mk ((by rw [hg]; exact (below_size (by repeat (first | (with_reducible first | exact HB.out | apply below_alloc | apply pw_below_drewN | apply below_drew1) | exact HB.out))) : w.heap.size ≤ gb189)); have n3_ := Aside0.mk ((by rw [hg]; exact (below_size (by repeat (first | (with_reducible first | exact HB.out | apply below_alloc | apply pw_below_drewN | apply below_drew1) | exact HB.out))) : w.heap.size ≤ gb189)); clear HB; have HB := n0_; have BK189 := n1_; have GW189 := n2_; have GE189 := n3_; clear n0_ n1_ n2_ n3_; clear hb hbox hg) | ((with_reducible refine gate_dst (N := 3) rfl ?_); refine box_event ?hg (N := 3) ?hd (cs := #[.int .i64 a1_0, .slice A1_1 l1_1.length c1_1]) (t := 83) ?hr ?_; (case hd => rfl); (case hg => rfl); (case hr => first | (go_simp; done) | (go_simp; rfl)); intro gb190 hg w19 hbox hb; have n0_ := Aside0.mk (blk_below (g := gb189) (o := .cells #[.int .i64 a0_0, .slice A0_1 l0_1.length c0_1] 83 (0, 0)) (by (with_reducible repeat (first | refine blk_drewN ?_ _ | refine blk_drew ?_ | refine blk_alloc ?_ _)); exact BK189.out) hb); have n1_ := Aside0.mk (below_step (by repeat (first | (with_reducible first | exact HB.out | apply below_alloc | apply pw_below_drewN | apply below_drew1 | refine below_set ?_ GE189.out) | exact HB.out)) hb); have n2_ := Aside0.mk (hbox); have n3_ := Aside0.mk ((by rw [hg]; exact (below_size (by repeat (first | (with_reducible first | exact HB.out | apply below_alloc | apply pw_below_drewN | apply below_drew1 | refine below_set ?_ GE189.out) | exact HB.out))) : w.heap.size ≤ gb190)); have n4_ := Aside0.mk ((by rw [hg]; exact (below_size (by repeat (first | (with_reducible first | exact HB.out | apply below_alloc | apply pw_below_drewN | apply below_drew1 | refine below_set ?_ GE189.out) | exact HB.out))) : w.heap.size ≤ gb190)); have n5_ := Aside0.mk ((by rw [hg]; exact Nat.ne_of_lt (blk_lt (g := gb189) (o := .cells #[.int .i64 a0_0, .slice A0_1 l0_1.length c0_1] 83 (0, 0)) (by (with_reducible repeat (first | refine blk_drewN ?_ _ | refine blk_drew ?_ | refine blk_alloc ?_ _)); exact BK189.out)) : gb189 ≠ gb190)); have n6_ := Aside0.mk ((by rw [hg]; exact Nat.ne_of_gt (blk_lt (g := gb189) (o := .cells #[.int .i64 a0_0, .slice A0_1 l0_1.length c0_1] 83 (0, 0)) (by (with_reducible repeat (first | refine blk_drewN ?_ _ | refine blk_drew ?_ | refine blk_alloc ?_ _)); exact BK189.out)) : gb190 ≠ gb189)); clear BK189; clear HB; have BK189 := n0_; have HB := n1_; have BK190 := n2_; have GW190 := n3_; have GE190 := n4_; have NB189_190 := n5_; have NB190_189 := n6_; clear n0_ n1_ n2_ n3_ n4_ n5_ n6_; clear hb hbox hg; have hnb20 := NB189_190.out; have hnc20 := NB190_189.out; have hcz21_0 : w19.cell? ⟨gb189, 0, none⟩ = some (.int .i64 a0_0) := (blk_cell BK189.out 0).trans rfl; have hcz21_1 : w19.cell? ⟨gb189, 1, none⟩ = some (.slice A0_1 l0_1.length c0_1) := (blk_cell BK189.out 1).trans rfl; have hfz21_0 := blk_frozen BK189.out 0; have hfz21_1 := blk_frozen BK189.out 1; have hcz22_0 : w19.cell? ⟨gb190, 0, none⟩ = some (.int .i64 a1_0) := (blk_cell BK190.out 0).trans rfl; have hcz22_1 : w19.cell? ⟨gb190, 1, none⟩ = some (.slice A1_1 l1_1.length c1_1) := (blk_cell BK190.out 1).trans rfl; have hfz22_0 := blk_frozen BK190.out 0; have hfz22_1 := blk_frozen BK190.out 1))
    go_ret
    exact ⟨by first | rfl | (simp [errW_none, errW_some] <;> rfl) | (simp [*, errW_none, errW_some] <;> rfl), by repeat (first | (with_reducible first | exact HB.out | apply below_alloc | apply pw_below_drewN | apply below_drew1 | refine below_set ?_ GE189.out | refine below_set ?_ GE190.out) | exact HB.out)⟩

end Go.Proofs.Ytjgnjhbleiempaa.QFnExactMapEntry
