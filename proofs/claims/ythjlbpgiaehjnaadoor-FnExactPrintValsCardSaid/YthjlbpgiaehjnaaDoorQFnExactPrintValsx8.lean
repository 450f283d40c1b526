-- written by this session's program (wip/tools/myprint.py)
import Derived.Test.YthjlbpgiaehjnaaDoorQFnExactPrintValsx0
import Derived.Test.YthjlbpgiaehjnaaDoorQFnExactPrintValsx7
namespace Go.Proofs.YthjlbpgiaehjnaaDoor.QFnExactPrintVals
open Go.RowKit Go.Proofs.YthjlbpgiaehjnaaDoorW.PrintWords Go.Proofs.YthjlbpgiaehjnaaDoorW.PrintLast Go.Proofs.YthjlbpgiaehjnaaDoorW.PrintMore
attribute [local go_sem] max2_int min2_int max_two min_two max_three min_three max_four min_four   -- for this text's walks alone
set_option linter.unusedVariables false
set_option linter.unusedSimpArgs false

/-! ### impl_structure_value: function 64 (by hand: a map of names) -/
mutual
/-- What (*structure).value answers: the place behind, and the three marks. -/
def valueV : Nat → List S81 → Bool → Bool → Bool → Int → Int → Option (Int × Bool × Bool × Bool)
  | 0, _, _, _, _, _, _ => none
  | k + 1, l, f, t, n, at_, d =>
    if 0 ≤ at_ ∧ at_ ≤ l.length ∧ 0 ≤ d ∧ d ≤ 1000000 ∧ l.length ≤ 1000000 then
      if f = true ∨ (l.length : Int) ≤ at_ then some (at_, true, t, n)
      else if (rd_T81 l at_).f0 = 5 ∨ (rd_T81 l at_).f0 = 6 then valueL k l (rd_T81 l at_) false t (n || decide (4 < d)) (at_ + 1) d [] 0
      else some (at_ + 1, false, t, n || decide (4 < d))
    else none
def valueL : Nat → List S81 → S81 → Bool → Bool → Bool → Int → Int → List ByteArray → Int → Option (Int × Bool × Bool × Bool)
  | 0, _, _, _, _, _, _, _, _, _ => none
  | k + 1, l, x, f, t, n, at_, d, names, i =>
    if 0 ≤ i ∧ i ≤ 1000000 ∧ names.length ≤ 1000000 then
      if i < x.f1 then
        if x.f0 = 6 then
          if 0 ≤ at_ ∧ at_ ≤ l.length then
            if f = true ∨ (l.length : Int) ≤ at_ then some (at_, true, t, n)
            else if (rd_T81 l at_).f0 = 4 then
              (valueV k l false (t || names.any fun y => y.data.toList == (rd_T81 l at_).f2.data.toList) (n || decide (4 < d + 1)) (at_ + 1) (d + 1)).bind fun r => valueL k l x r.2.1 r.2.2.1 r.2.2.2 r.1 d ((rd_T81 l at_).f2 :: names) (i + 1)
            else some (at_, true, t, n)
          else none
        else (valueV k l f t n at_ (d + 1)).bind fun r => valueL k l x r.2.1 r.2.2.1 r.2.2.2 r.1 d names (i + 1)
      else some (at_, f, t, n)
    else none
end
open Go.Proofs.YthjlbpgiaehjnaaDoor.HNames in
/-- What holds in a round of the loop. -/
structure InvV (w0 w W : World) (g gv B : Nat) (A : Option Addr) (c : Nat) (l : List S81) (x : S81) (f t n : Bool) (names : List ByteArray) : Prop where
  bs : W.heap[g]? = some (.cells #[.slice A l.length c, .bool f, .bool t, .bool n] 98 (0, 0))
  nm : NamesAt W B names
  bx : W.heap[gv]? = some (.cells #[.int .i64 x.f0, .int .i64 x.f1, .string x.f2] 81 (0, 0))
  bl : Below w0.heap.size w0 W
  kp : KeepBut w W g none
  gw : w0.heap.size ≤ g
  nb : B ≠ g
  nv : gv ≠ g
  vb : gv ≠ B
  hB : w.heap.size ≤ B
  hw : w0.heap.size ≤ w.heap.size
  rd : Kd.C k81 w0 A l.length l
theorem InvV.set1 {w0 w W : World} {g gv B : Nat} {A : Option Addr} {c : Nat} {l : List S81} {x : S81} {f t n : Bool} {names : List ByteArray} (h : InvV w0 w W g gv B A c l x f t n names) (b : Bool) : InvV w0 w (W.setCell ⟨g, 1, none⟩ (.bool b)) g gv B A c l x b t n names :=
  ⟨blk_put h.bs 1 _ rfl, h.nm.heap (Below.heap_setCell W ⟨g, 1, none⟩ _ B h.nb), blk_far h.bx h.nv _, below_set h.bl h.gw, h.kp.set_ 1 _, h.gw, h.nb, h.nv, h.vb, h.hB, h.hw, h.rd⟩
theorem InvV.set2 {w0 w W : World} {g gv B : Nat} {A : Option Addr} {c : Nat} {l : List S81} {x : S81} {f t n : Bool} {names : List ByteArray} (h : InvV w0 w W g gv B A c l x f t n names) (b : Bool) : InvV w0 w (W.setCell ⟨g, 2, none⟩ (.bool b)) g gv B A c l x f b n names :=
  ⟨blk_put h.bs 2 _ rfl, h.nm.heap (Below.heap_setCell W ⟨g, 2, none⟩ _ B h.nb), blk_far h.bx h.nv _, below_set h.bl h.gw, h.kp.set_ 2 _, h.gw, h.nb, h.nv, h.vb, h.hB, h.hw, h.rd⟩
theorem InvV.set3 {w0 w W : World} {g gv B : Nat} {A : Option Addr} {c : Nat} {l : List S81} {x : S81} {f t n : Bool} {names : List ByteArray} (h : InvV w0 w W g gv B A c l x f t n names) (b : Bool) : InvV w0 w (W.setCell ⟨g, 3, none⟩ (.bool b)) g gv B A c l x f t b names :=
  ⟨blk_put h.bs 3 _ rfl, h.nm.heap (Below.heap_setCell W ⟨g, 3, none⟩ _ B h.nb), blk_far h.bx h.nv _, below_set h.bl h.gw, h.kp.set_ 3 _, h.gw, h.nb, h.nv, h.vb, h.hB, h.hw, h.rd⟩
theorem InvV.put {w0 w W W' : World} {g gv B : Nat} {A : Option Addr} {c : Nat} {l : List S81} {x : S81} {f t n : Bool} {names names' : List ByteArray} (h : InvV w0 w W g gv B A c l x f t n names) (hn : Go.Proofs.YthjlbpgiaehjnaaDoor.HNames.NamesAt W' B names') (hg : W.grownBy W' (some B)) : InvV w0 w W' g gv B A c l x f t n names' :=
  ⟨blk_grown h.bs hg (fun e => h.nb (Option.some.inj e).symm), hn, blk_grown h.bx hg (fun e => h.vb (Option.some.inj e)), h.bl.grown hg (Nat.le_trans h.hw h.kp.1) (fun k hk => by cases hk; exact Nat.le_trans h.hw h.hB), h.kp.trans (KeepBut.of_grown hg g) (.inr ⟨B, rfl, h.hB⟩), h.gw, h.nb, h.nv, h.vb, h.hB, h.hw, h.rd⟩
theorem InvV.call {w0 w W W' : World} {g gv B : Nat} {A A' : Option Addr} {c c' : Nat} {l : List S81} {x : S81} {f t n f' t' n' : Bool} {names : List ByteArray} (h : InvV w0 w W g gv B A c l x f t n names) (hs : W'.heap[g]? = some (.cells #[.slice A' l.length c', .bool f', .bool t', .bool n'] 98 (0, 0))) (hr : Kd.C k81 w0 A' l.length l) (hb : Below w0.heap.size w0 W') (hk : KeepBut W W' g none) : InvV w0 w W' g gv B A' c' l x f' t' n' names :=
  ⟨hs, h.nm.heap (hk.2 B h.nm.lt h.nb (by simp)), hk.blk h.bx h.nv (by simp), hb, h.kp.trans hk (.inl rfl), h.gw, h.nb, h.nv, h.vb, h.hB, h.hw, hr⟩
theorem InvV.st {w0 w W : World} {g gv B : Nat} {A : Option Addr} {c : Nat} {l : List S81} {x : S81} {f t n : Bool} {names : List ByteArray} (h : InvV w0 w W g gv B A c l x f t n names) : IsS98 w0 W g l f t n := ⟨A, c, h.bs, h.gw, h.rd⟩
theorem InvV.el {w0 w W : World} {g gv B : Nat} {A : Option Addr} {c : Nat} {l : List S81} {x : S81} {f t n : Bool} {names : List ByteArray} (h : InvV w0 w W g gv B A c l x f t n names) {a : Addr} {v : Value} (hx : w0.cell? a = some v) : W.cell? a = some v := (h.bl.cell (World.block_lt_of_cell? w0 a hx)).trans hx
set_option maxHeartbeats 4000000 in
set_option maxRecDepth 100000 in
theorem valueV_calls : ∀ (k g : Nat) (l : List S81) (f t n : Bool) (at_ d : Int) (r1 : Int) (r2 r3 r4 : Bool) (w0 w : World), (∀ x ∈ l, x.f2.size ≤ maxLen) → IsS98 w0 w g l f t n → Below w0.heap.size w0 w → valueV k l f t n at_ d = some (r1, r2, r3, r4) →
    Calls Tryd.prog 64 #[.pointer (some ⟨g, 0, none⟩), .int .i64 at_, .int .i64 d] w fun e w' => e = .returned (.int .i64 r1) ∧ IsS98 w0 w' g l r2 r3 r4 ∧ Below w0.heap.size w0 w' ∧ KeepBut w w' g none := by
  have hu134 := Tryd.underlying98
  have hu129 := Tryd.underlying81
  intro k
  induction k using Nat.strongRecOn with
  | _ k ih =>
    intro g l f t n at_ d r1 r2 r3 r4 w0 w hsz hI hB h
    cases k with
    | zero => simp [valueV] at h
    | succ k =>
      unfold valueV at h
      by_cases hG : 0 ≤ at_ ∧ at_ ≤ l.length ∧ 0 ≤ d ∧ d ≤ 1000000 ∧ l.length ≤ 1000000
      · rw [if_pos hG] at h
        obtain ⟨A, c, hb, hg, hr⟩ := hI
        have HR := Aside0.mk hr
        have HBX := Aside0.mk hb
        have HB := Aside0.mk hB
        have HG := Aside0.mk hg
        have HGG := Aside0.mk hG
        have hc0 : w.cell? ⟨g, 0, none⟩ = some (.slice A l.length c) := (blk_cell hb 0).trans rfl
        have hc1 : w.cell? ⟨g, 1, none⟩ = some (.bool f) := (blk_cell hb 1).trans rfl
        have hf1 := blk_frozen hb 1
        clear hr hb hB hg
        by_cases hE : f = true ∨ (l.length : Int) ≤ at_
        · rw [if_pos hE] at h
          simp only [Option.some.injEq, Prod.mk.injEq] at h
          obtain ⟨rfl, rfl, rfl, rfl⟩ := h
          cases f with
          | true =>
            clear hE
            go_enter Tryd.func64, Tryd.ntmps64
            go_wp2
            go_ret
            exact ⟨rfl, ⟨A, c, blk_put HBX.out 1 _ rfl, HG.out, HR.out⟩, below_set HB.out HG.out, (KeepBut.refl w g none).set_ 1 _⟩
          | false =>
            have hat : (l.length : Int) ≤ at_ := hE.resolve_left (by decide)
            have hatb : decide ((l.length : Int) ≤ at_) = true := decide_eq_true hat
            clear hE
            go_enter Tryd.func64, Tryd.ntmps64
            go_wp2
            go_ret
            exact ⟨rfl, ⟨A, c, blk_put HBX.out 1 _ rfl, HG.out, HR.out⟩, below_set HB.out HG.out, (KeepBut.refl w g none).set_ 1 _⟩
        · rw [if_neg hE] at h
          have hfF : f = false := by cases f with | false => rfl | true => exact absurd (.inl rfl) hE
          subst hfF
          have hlt : at_ < (l.length : Int) := (Int.lt_or_le at_ l.length).resolve_right (fun h1 => hE (.inr h1))
          have hatb : decide ((l.length : Int) ≤ at_) = false := decide_eq_false (by omega)
          clear hE
          have h00 := HGG.out.1
          obtain ⟨ad, e, hx0, hx1, hx2⟩ := at_T81 HR.out at_ h00 hlt
          cases e
          obtain ⟨x, hxd⟩ : ∃ x, rd_T81 l at_ = x := ⟨_, rfl⟩
          rw [hxd] at h hx0 hx1 hx2
          have HXD := Aside0.mk hxd
          clear hxd
          have hna : (ad.add (at_.toNat * 3)).block ≠ g := Nat.ne_of_lt (Nat.lt_of_lt_of_le (World.block_lt_of_cell? w0 _ hx0) HG.out)
          have hna' : ad.block ≠ g := by have := hna; rwa [add_block] at this
          have HX0 := Aside0.mk hx0
          have HX1 := Aside0.mk hx1
          have HX2 := Aside0.mk hx2
          clear hx0 hx1 hx2 hna hna'
          have hc3 : w.cell? ⟨g, 3, none⟩ = some (.bool n) := (blk_cell HBX.out 3).trans rfl
          have hf3 := blk_frozen HBX.out 3
          have p5 := eq_true h00
          have q5 := eq_true hlt
          have hmm := @run_makeMap Tryd.prog
          have hw1 : wrap64 (at_ + 1) = at_ + 1 := by have := HGG.out; unfold wrap64; omega
          go_enter Tryd.func64, Tryd.ntmps64
          go_upto_region 4 with fail
          go_cut [] (fun wc => wc = (w.setCell ⟨g, 1, none⟩ (.bool false)).setCell ⟨g, 3, none⟩ (.bool (n || decide (4 < d))))
          case first =>
            cases n with
            | true => go_wp2; go_meet; rfl
            | false => go_wp2; go_meet; rfl
          case rest =>
            have BSc := Aside0.mk (show wc.heap[g]? = some (.cells #[.slice (some ad) l.length c, .bool false, .bool t, .bool (n || decide (4 < d))] 98 (0, 0)) by rw [hcut]; exact blk_put (cs := #[.slice (some ad) l.length c, .bool false, .bool t, .bool n]) (blk_put HBX.out 1 _ rfl) 3 _ rfl)
            have BLc := Aside0.mk (show Below w0.heap.size w0 wc by rw [hcut]; exact below_set (below_set HB.out HG.out) HG.out)
            have KPc := Aside0.mk (show KeepBut w wc g none by rw [hcut]; exact ((KeepBut.refl w g none).set_ 1 _).set_ 3 _)
            clear hcut hc0 hc1 hf1 hc3 hf3
            have hc0 : wc.cell? ⟨g, 0, none⟩ = some (.slice (some ad) l.length c) := (blk_cell BSc.out 0).trans rfl
            have hx0 := (BLc.out.cell (World.block_lt_of_cell? w0 _ HX0.out)).trans HX0.out
            have hx1 := (BLc.out.cell (World.block_lt_of_cell? w0 _ HX1.out)).trans HX1.out
            have hx2 := (BLc.out.cell (World.block_lt_of_cell? w0 _ HX2.out)).trans HX2.out
            go_upto_region 7 with (first | ((with_reducible refine gate_dst (N := 7) rfl ?_); refine box_event ?hg (N := 7) ?hd (cs := #[.int .i64 0, .int .i64 0, .string ⟨#[]⟩]) (t := 81) ?hr ?_; (case hd => rfl); (case hg => rfl); (case hr => first | (go_simp; done) | (go_simp; rfl)); intro gv hgv w5 hbox hb; have HV5 := Aside0.mk hbox; have HB5 := Aside0.mk hb; have HGV := Aside0.mk hgv; have hz0 : w5.cell? ⟨gv, 0, none⟩ = some (.int .i64 0) := (blk_cell hbox 0).trans rfl; have hz1 : w5.cell? ⟨gv, 1, none⟩ = some (.int .i64 0) := (blk_cell hbox 1).trans rfl; have hz2 : w5.cell? ⟨gv, 2, none⟩ = some (.string ⟨#[]⟩) := (blk_cell hbox 2).trans rfl; have hzf0 := blk_frozen hbox 0; have hzf1 := blk_frozen hbox 1; have hzf2 := blk_frozen hbox 2; clear hbox hb hgv))
            have hgt : wc.heap.size < gv := by rw [HGV.out]; simp
            have hgw : g < wc.heap.size := blk_lt BSc.out
            have hnv : gv ≠ g := by omega
            have hnb : wc.heap.size ≠ g := by omega
            have hvb : wc.heap.size ≠ gv := by omega
            have hgw0 : w0.heap.size ≤ gv := Nat.le_trans HB.out.size (Nat.le_trans KPc.out.1 (Nat.le_of_lt hgt))
            have hN5 : Go.Proofs.YthjlbpgiaehjnaaDoor.HNames.NamesAt w5 wc.heap.size [] := (Go.Proofs.YthjlbpgiaehjnaaDoor.HNames.NamesAt.made wc).heap (HB5.out.block _ (by simp))
            have hB5g := blk_below (g := g) (blk_alloc BSc.out (.map #[] 0)) HB5.out
            have hL5 : Below w0.heap.size w0 w5 := below_step (below_alloc BLc.out _) HB5.out
            have hK5 : KeepBut w w5 g none := (keep_alloc KPc.out _).trans (KeepBut.of_below HB5.out g none) (.inl rfl)
            have hwg : w.heap.size ≤ gv := Nat.le_trans KPc.out.1 (Nat.le_of_lt hgt)
            have HI := Aside0.mk (show InvV w0 w (((w5.setCell ⟨gv, 0, none⟩ (.int .i64 x.f0)).setCell ⟨gv, 1, none⟩ (.int .i64 x.f1)).setCell ⟨gv, 2, none⟩ (.string x.f2)) g gv wc.heap.size (some ad) c l x false t (n || decide (4 < d)) [] from
              ⟨blk_far (blk_far (blk_far hB5g hnv.symm _) hnv.symm _) hnv.symm _, ((hN5.heap (Below.heap_setCell _ ⟨gv, 0, none⟩ _ _ hvb)).heap (Below.heap_setCell _ ⟨gv, 1, none⟩ _ _ hvb)).heap (Below.heap_setCell _ ⟨gv, 2, none⟩ _ _ hvb), blk_put (cs := #[.int .i64 x.f0, .int .i64 x.f1, .string ⟨#[]⟩]) (blk_put (cs := #[.int .i64 x.f0, .int .i64 0, .string ⟨#[]⟩]) (blk_put HV5.out 0 _ rfl) 1 _ rfl) 2 _ rfl, below_set (below_set (below_set hL5 hgw0) hgw0) hgw0, keep_far (keep_far (keep_far hK5 hwg _) hwg _) hwg _, HG.out, hnb, hnv, hvb.symm, KPc.out.1, HB.out.size, HR.out⟩)
            clear hgt hgw hnv hnb hvb hgw0 hN5 hB5g hL5 hK5 hwg
            generalize wc.heap.size = Bm at HI ⊢
            go_cut [58] (fun v58 wd => ∃ b, v58 = .bool b ∧ Aside0 (b = decide (¬ (x.f0 = 5 ∨ x.f0 = 6))) ∧ Aside0 (InvV w0 w wd g gv Bm (some ad) c l x false t (n || decide (4 < d)) []))
            case first =>
              by_cases k5 : x.f0 = 5
              · have k5b : (x.f0 != 5) = false := bne_eq_false_iff_eq.2 k5
                have k5c : (x.f0 == 5) = true := beq_iff_eq.2 k5
                have e : decide (¬ (x.f0 = 5 ∨ x.f0 = 6)) = false := decide_eq_false (by simp [k5])
                clear k5
                go_wp2
                go_meet
                exact ⟨false, rfl, ⟨e.symm⟩, HI⟩
              · have k5b : (x.f0 != 5) = true := bne_iff_ne.2 k5
                have k5c : (x.f0 == 5) = false := beq_eq_false_iff_ne.2 k5
                by_cases k6 : x.f0 = 6
                · have k6b : (x.f0 != 6) = false := bne_eq_false_iff_eq.2 k6
                  have k6c : (x.f0 == 6) = true := beq_iff_eq.2 k6
                  have e : decide (¬ (x.f0 = 5 ∨ x.f0 = 6)) = false := decide_eq_false (by simp [k6])
                  clear k5 k6
                  go_wp2
                  go_meet
                  exact ⟨false, rfl, ⟨e.symm⟩, HI⟩
                · have k6b : (x.f0 != 6) = true := bne_iff_ne.2 k6
                  have k6c : (x.f0 == 6) = false := beq_eq_false_iff_ne.2 k6
                  have e : decide (¬ (x.f0 = 5 ∨ x.f0 = 6)) = true := decide_eq_true (by simp [k5, k6])
                  clear k5 k6
                  go_wp2
                  go_meet
                  exact ⟨true, rfl, ⟨e.symm⟩, HI⟩
            case rest =>
              clear HI
              obtain ⟨b, rfl, hb, HI⟩ := hcut
              by_cases hk : x.f0 = 5 ∨ x.f0 = 6
              · rw [if_pos hk] at h
                have hb' := hb.out
                rw [decide_eq_false (fun h_ => h_ hk)] at hb'
                subst hb'
                have HEV := Aside0.mk h
                have HK := Aside0.mk hk
                clear h hb hk
                have hq1 : wc.cell? ⟨gv, 1, none⟩ = some (.int .i64 x.f1) := (blk_cell HI.out.bx 1).trans rfl
                go_wp2
                go_loopg [1, 62] k (fun kq v1 v62 w' => ∃ (a i : Int) (f' t' n' : Bool) (names : List ByteArray) (A' : Option Addr) (c' : Nat), v1 = .int .i64 a ∧ v62 = .int .i64 i ∧ Aside0 (valueL kq l x f' t' n' a d names i = some (r1, r2, r3, r4)) ∧ Aside0 (kq ≤ k) ∧ Aside0 (InvV w0 w w' g gv Bm A' c' l x f' t' n' names))
                case atStart => exact ⟨at_ + 1, 0, false, t, _, [], _, _, (by first | rfl | (simp [hw1]; done)), rfl, HEV, ⟨Nat.le_refl _⟩, HI⟩
                case round =>
                  clear HI HEV
                  obtain ⟨a, i, f', t', n', names, A', c', rfl, rfl, HA, HK1, HI⟩ := hrel
                  cases gk with
                  | zero => exact absurd HA.out (by simp [valueL])
                  | succ k1 =>
                    have h := HA.out
                    clear HA
                    unfold valueL at h
                    by_cases hG2 : 0 ≤ i ∧ i ≤ 1000000 ∧ names.length ≤ 1000000
                    · rw [if_pos hG2] at h
                      have HG2 := Aside0.mk hG2
                      clear hG2
                      have hq0 : wr.cell? ⟨gv, 0, none⟩ = some (.int .i64 x.f0) := (blk_cell HI.out.bx 0).trans rfl
                      have hwi : wrap64 (i + 1) = i + 1 := by have := HG2.out; unfold wrap64; omega
                      have hwd : wrap64 (d + 1) = d + 1 := by have := HGG.out; unfold wrap64; omega
                      by_cases hi : i < x.f1
                      · rw [if_pos hi] at h
                        have hib : decide (i < x.f1) = true := decide_eq_true hi
                        by_cases h6 : x.f0 = 6
                        · rw [if_pos h6] at h
                          have h6b : (x.f0 == 6) = true := beq_iff_eq.2 h6
                          clear h6 hi
                          by_cases hG3 : 0 ≤ a ∧ a ≤ l.length
                          · rw [if_pos hG3] at h
                            have HG3 := Aside0.mk hG3
                            clear hG3
                            have hc0 : wr.cell? ⟨g, 0, none⟩ = some (.slice A' l.length c') := (blk_cell HI.out.bs 0).trans rfl
                            have hc1 : wr.cell? ⟨g, 1, none⟩ = some (.bool f') := (blk_cell HI.out.bs 1).trans rfl
                            have hf1 := blk_frozen HI.out.bs 1
                            by_cases hE2 : f' = true ∨ (l.length : Int) ≤ a
                            · rw [if_pos hE2] at h
                              simp only [Option.some.injEq, Prod.mk.injEq] at h
                              obtain ⟨rfl, rfl, rfl, rfl⟩ := h
                              cases f' with
                              | true =>
                                clear hE2
                                go_wp2
                                go_ret
                                exact ⟨rfl, (HI.out.set1 true).st, (HI.out.set1 true).bl, (HI.out.set1 true).kp⟩
                              | false =>
                                have hatb2 : decide ((l.length : Int) ≤ a) = true := decide_eq_true (hE2.resolve_left (by decide))
                                clear hE2
                                go_wp2
                                go_ret
                                exact ⟨rfl, (HI.out.set1 true).st, (HI.out.set1 true).bl, (HI.out.set1 true).kp⟩
                            · rw [if_neg hE2] at h
                              have hfF : f' = false := by cases f' with | false => rfl | true => exact absurd (.inl rfl) hE2
                              subst hfF
                              have hlt2 : a < (l.length : Int) := by
                                rcases Int.lt_or_le a l.length with h1 | h1
                                · exact h1
                                · exact absurd (.inr h1) hE2
                              have hatb2 : decide ((l.length : Int) ≤ a) = false := decide_eq_false (by omega)
                              clear hE2
                              have h02 := HG3.out.1
                              obtain ⟨ad2, e, hy0, hy1, hy2⟩ := at_T81 HI.out.rd a h02 hlt2
                              cases e
                              have hys : (rd_T81 l a).f2.size ≤ maxLen := by
                                unfold rd_T81
                                rw [List.getD_eq_getElem?_getD, List.getElem?_eq_getElem (by omega)]
                                exact hsz _ (List.getElem_mem _)
                              generalize rd_T81 l a = y at h hy0 hy1 hy2 hys
                              have HY0 := Aside0.mk hy0
                              have HY2 := Aside0.mk hy2
                              clear hy1 hy2
                              replace hy0 := HI.out.el hy0
                              have p6 := eq_true h02
                              have q6 := eq_true hlt2
                              have hwa : wrap64 (a + 1) = a + 1 := by have := HG3.out; have := HGG.out; unfold wrap64; omega
                              by_cases h4 : y.f0 = 4
                              · rw [if_pos h4] at h
                                have h4b : (y.f0 != 4) = false := bne_eq_false_iff_eq.2 h4
                                have h4c : (y.f0 == 4) = true := beq_iff_eq.2 h4
                                clear h4
                                obtain ⟨⟨s1, s2, s3, s4⟩, hv, h⟩ := Option.bind_eq_some_iff.mp h
                                have HV := Aside0.mk hv
                                have HE2 := Aside0.mk h
                                clear hv h
                                have hc3 : wr.cell? ⟨g, 3, none⟩ = some (.bool n') := (blk_cell HI.out.bs 3).trans rfl
                                have hf3 := blk_frozen HI.out.bs 3
                                go_upto_region 15 with fail
                                go_cut [] (fun wd => Aside0 (InvV w0 w wd g gv Bm (some ad2) c' l x false t' (n' || decide (4 < d + 1)) names))
                                case first =>
                                  cases n' with
                                  | true => go_wp2; go_meet; exact ⟨(HI.out.set1 false).set3 true⟩
                                  | false => go_wp2; go_meet; exact ⟨(HI.out.set1 false).set3 _⟩
                                case rest =>
                                  clear HI hy0 hc0 hc1 hf1 hc3 hf3 hq0 hq1
                                  have HI := hcut
                                  clear hcut
                                  have hc0 : wc.cell? ⟨g, 0, none⟩ = some (.slice (some ad2) l.length c') := (blk_cell HI.out.bs 0).trans rfl
                                  have hc2 : wc.cell? ⟨g, 2, none⟩ = some (.bool t') := (blk_cell HI.out.bs 2).trans rfl
                                  have hf2 := blk_frozen HI.out.bs 2
                                  have hy2 := HI.out.el HY2.out
                                  have hlk := HI.out.nm.look Tryd.underlying128 y.f2 hys
                                  generalize (names.any fun z => z.data.toList == y.f2.data.toList) = seen at hlk HV
                                  go_upto_region 16 with fail
                                  go_cut [] (fun wd => Aside0 (InvV w0 w wd g gv Bm (some ad2) c' l x false (t' || seen) (n' || decide (4 < d + 1)) names))
                                  case first =>
                                    cases t' with
                                    | true => go_wp2; go_meet; exact ⟨HI.out.set2 true⟩
                                    | false => go_wp2; go_meet; exact ⟨HI.out.set2 _⟩
                                  case rest =>
                                    clear HI hc0 hc2 hf2 hy2 hlk
                                    have HI := hcut
                                    clear hcut
                                    have hc0 : wc.cell? ⟨g, 0, none⟩ = some (.slice (some ad2) l.length c') := (blk_cell HI.out.bs 0).trans rfl
                                    have hy2 := HI.out.el HY2.out
                                    go_wp2_with (first | (at_mapUpdate; refine Go.Proofs.YthjlbpgiaehjnaaDoor.HNames.wpList_names rfl _ _ _ 128 rfl Tryd.underlying128 Bm names rfl HI.out.nm (by have := HG2.out; unfold maxLen; omega) y.f2 hys rfl rfl ?_; intro w7 hn7 hg7; have HI7 := Aside0.mk (HI.out.put hn7 hg7); clear hn7 hg7) | (go_at_call 64; refine (ih k1 (by have := HK1.out; omega) g l false _ _ (a + 1) (d + 1) s1 s2 s3 s4 w0 _ hsz HI7.out.st HI7.out.bl HV.out).mono ?_; rintro e w8 ⟨rfl, ⟨A8, c8, hb8, _, hr8⟩, hbl8, hk8⟩; have HI8 := Aside0.mk (HI7.out.call hb8 hr8 hbl8 hk8); clear hb8 hbl8 hk8 hr8))
                                    go_roundg k1
                                    case measure => omega
                                    case rel => exact ⟨s1, i + 1, s2, s3, s4, y.f2 :: names, A8, c8, rfl, (by first | rfl | (simp [hwi]; done)), HE2, ⟨by have := HK1.out; omega⟩, HI8⟩
                              · rw [if_neg h4] at h
                                have h4b : (y.f0 != 4) = true := bne_iff_ne.2 h4
                                have h4c : (y.f0 == 4) = false := beq_eq_false_iff_ne.2 h4
                                clear h4
                                simp only [Option.some.injEq, Prod.mk.injEq] at h
                                obtain ⟨rfl, rfl, rfl, rfl⟩ := h
                                go_wp2
                                go_ret
                                exact ⟨rfl, (HI.out.set1 true).st, (HI.out.set1 true).bl, (HI.out.set1 true).kp⟩
                          · rw [if_neg hG3] at h; cases h
                        · rw [if_neg h6] at h
                          have h6b : (x.f0 == 6) = false := beq_eq_false_iff_ne.2 h6
                          clear h6 hi
                          obtain ⟨⟨s1, s2, s3, s4⟩, hv, h⟩ := Option.bind_eq_some_iff.mp h
                          have HV := Aside0.mk hv
                          have HE2 := Aside0.mk h
                          clear hv h
                          go_wp2_with (first | (go_at_call 64; refine (ih k1 (by have := HK1.out; omega) g l f' t' n' a (d + 1) s1 s2 s3 s4 w0 _ hsz HI.out.st HI.out.bl HV.out).mono ?_; rintro e w8 ⟨rfl, ⟨A8, c8, hb8, _, hr8⟩, hbl8, hk8⟩; have HI8 := Aside0.mk (HI.out.call hb8 hr8 hbl8 hk8); clear hb8 hbl8 hk8 hr8))
                          go_roundg k1
                          case measure => omega
                          case rel => exact ⟨s1, i + 1, s2, s3, s4, names, A8, c8, rfl, (by first | rfl | (simp [hwi]; done)), HE2, ⟨by have := HK1.out; omega⟩, HI8⟩
                      · rw [if_neg hi] at h
                        have hib : decide (i < x.f1) = false := decide_eq_false hi
                        simp only [Option.some.injEq, Prod.mk.injEq] at h
                        obtain ⟨rfl, rfl, rfl, rfl⟩ := h
                        clear hi
                        go_wp2
                        go_ret
                        exact ⟨rfl, HI.out.st, HI.out.bl, HI.out.kp⟩
                    · rw [if_neg hG2] at h; cases h
              · rw [if_neg hk] at h
                have hb' := hb.out
                rw [decide_eq_true hk] at hb'
                subst hb'
                simp only [Option.some.injEq, Prod.mk.injEq] at h
                obtain ⟨rfl, rfl, rfl, rfl⟩ := h
                clear hb hk
                go_wp2
                go_ret
                exact ⟨by first | rfl | (simp [hw1]; done), HI.out.st, HI.out.bl, HI.out.kp⟩
      · rw [if_neg hG] at h; cases h
/-- More rounds than there are values are never needed. -/
def impl_structure_value.f (s0_0 : List S81) (s0_1 : Bool) (s0_2 : Bool) (s0_3 : Bool) (a1 : Int) (a2 : Int) : Option (Int × Bool × Bool × Bool) := if (∀ x ∈ s0_0, x.f2.size ≤ maxLen) then valueV 100000 s0_0 s0_1 s0_2 s0_3 a1 a2 else none
theorem impl_structure_value.calls (g : Nat) (s0_0 : List S81) (s0_1 : Bool) (s0_2 : Bool) (s0_3 : Bool) (a1 : Int) (a2 : Int) (r1 : Int) (r2 : Bool) (r3 : Bool) (r4 : Bool) (w0 w : World) (hI : IsS98 w0 w g s0_0 s0_1 s0_2 s0_3) (hB : Below w0.heap.size w0 w) (h : impl_structure_value.f s0_0 s0_1 s0_2 s0_3 a1 a2 = some (r1, r2, r3, r4)) :
    Calls Tryd.prog 64 #[.pointer (some ⟨g, 0, none⟩), .int .i64 a1, .int .i64 a2] w fun e w' => e = .returned (.int .i64 r1) ∧ IsS98 w0 w' g s0_0 r2 r3 r4 ∧ Below w0.heap.size w0 w' ∧ KeepBut w w' g none := by
  unfold impl_structure_value.f at h
  by_cases hs : ∀ x ∈ s0_0, x.f2.size ≤ maxLen
  · rw [if_pos hs] at h
    exact valueV_calls 100000 g s0_0 s0_1 s0_2 s0_3 a1 a2 r1 r2 r3 r4 w0 w hs hI hB h
  · rw [if_neg hs] at h; cases h

/-! ### impl_ValsFault: function 31 (by hand: a state in a box) -/
/-- What ValsFault does from a place on. -/
def impl_ValsFault.l0 : Nat → List S81 → Int → Option Int
  | 0, _, _ => none
  | k + 1, x0, x => if x < (x0.length : Int) then (if 0 ≤ x then ((impl_valFault.f k ((rd_T81 x0 x).f0) ((rd_T81 x0 x).f1) ((rd_T81 x0 x).f2)).bind fun c => if c = 0 then impl_ValsFault.l0 k x0 (wrap64 (x + 1)) else some c) else none) else ((impl_structure_value.f x0 false false false 0 0).bind fun r => if r.2.1 = true then some 1 else if r.1 = (x0.length : Int) then (if r.2.2.1 = true then some 6 else if r.2.2.2 = true then some 2 else some 0) else some 1)
def impl_ValsFault.f (k : Nat) (l0 : List S81) : Option Int := (impl_in.f (l0.length : Int) 1 20).bind fun t => if t = true then impl_ValsFault.l0 k l0 0 else some 2
theorem impl_ValsFault.mono_l : ∀ k x0 x, LeO (impl_ValsFault.l0 k x0 x) (impl_ValsFault.l0 (k + 1) x0 x)
  | 0 => fun _ _ r h => by simp [impl_ValsFault.l0] at h
  | k + 1 => by
    intro x0 x r h
    unfold impl_ValsFault.l0 at h ⊢
    by_cases c1 : x < (x0.length : Int)
    · rw [if_pos c1] at h ⊢
      by_cases c2 : 0 ≤ x
      · rw [if_pos c2] at h ⊢
        obtain ⟨c, h1, h2⟩ := Option.bind_eq_some_iff.mp h
        refine Option.bind_eq_some_iff.mpr ⟨c, impl_valFault.mono _ _ _ _ _ h1, ?_⟩
        by_cases c3 : c = 0
        · rw [if_pos c3] at h2 ⊢
          exact impl_ValsFault.mono_l k _ _ r h2
        · rw [if_neg c3] at h2 ⊢
          exact h2
      · rw [if_neg c2] at h; cases h
    · rw [if_neg c1] at h ⊢
      exact h
theorem impl_ValsFault.mono : ∀ a0 k, LeO (impl_ValsFault.f k a0) (impl_ValsFault.f (k + 1) a0) := by
  intro a0 k r h
  unfold impl_ValsFault.f at h ⊢
  obtain ⟨t, h1, h2⟩ := Option.bind_eq_some_iff.mp h
  refine Option.bind_eq_some_iff.mpr ⟨t, h1, ?_⟩
  by_cases c : t = true
  · rw [if_pos c] at h2 ⊢
    exact impl_ValsFault.mono_l k _ _ r h2
  · rw [if_neg c] at h2 ⊢
    exact h2
set_option maxHeartbeats 4000000 in
set_option maxRecDepth 100000 in
theorem impl_ValsFault.calls (k : Nat) (A0 : Option Addr) (c0 : Nat) (l0 : List (S81)) (r : Int) (w : World) (hr0 : Kd.C k81 w A0 l0.length l0) (hc0 : l0.length ≤ c0) (h : impl_ValsFault.f k l0 = some r) :
    Calls Tryd.prog 31 #[.slice A0 l0.length c0] w fun e w' => e = .returned (.int .i64 r) ∧ Below w.heap.size w w' := by
  have hu129 := Tryd.underlying81
  have hu134 := Tryd.underlying98
  have HR0 := Aside0.mk hr0
  have HC0 := Aside0.mk hc0
  clear hr0 hc0
  unfold impl_ValsFault.f at h
  obtain ⟨t, ht, h⟩ := Option.bind_eq_some_iff.mp h
  have HT := Aside0.mk ht
  clear ht
  by_cases c1 : t = true
  · rw [if_pos c1] at h
    subst c1
    have HC2 := Aside0.mk h
    clear h
    have HB := Aside0.mk (Below.refl w.heap.size w)
    go_enter Tryd.func31, Tryd.ntmps31
    go_wp2_with (first | (go_at_call 39; refine (impl_in.calls _ _ _ true _ HT.out).mono ?_; rintro e w3 ⟨rfl, hd⟩; have n0_ := Aside0.mk (below_step HB.out hd.below); clear HB; have HB := n0_; clear n0_ hd))
    go_loopg [14] k (fun kq v14 w' => ∃ (x : Int), v14 = .int .i64 x ∧ Aside0 (impl_ValsFault.l0 kq l0 x = some r) ∧ Aside0 (kq ≤ k) ∧ Aside0 (Below w.heap.size w w'))
    case atStart => exact ⟨0, rfl, HC2, ⟨Nat.le_refl _⟩, HB⟩
    case round =>
      clear HC2 HB
      obtain ⟨x, rfl, HA, HK, HB⟩ := hrel
      cases gk with
      | zero => exact absurd HA.out (by simp [impl_ValsFault.l0])
      | succ k2 =>
        have H := HA.out
        clear HA
        simp only [impl_ValsFault.l0] at H
        by_cases c5 : x < (l0.length : Int)
        · rw [if_pos c5] at H
          have c5b0 : decide (x < (l0.length : Int)) = true := decide_eq_true c5
          by_cases c6 : 0 ≤ x
          · rw [if_pos c6] at H
            obtain ⟨cc, A70, H⟩ := Option.bind_eq_some_iff.mp H
            have A7 := Aside0.mk A70
            clear A70
            obtain ⟨ad, e, hx0, hx1, hx2⟩ := at_T81 HR0.out x c6 c5
            cases e
            replace hx0 := (HB.out.cell (World.block_lt_of_cell? w _ hx0)).trans hx0
            replace hx1 := (HB.out.cell (World.block_lt_of_cell? w _ hx1)).trans hx1
            replace hx2 := (HB.out.cell (World.block_lt_of_cell? w _ hx2)).trans hx2
            have p5 := eq_true c6
            have q5 := eq_true c5
            have HH := Aside0.mk H
            clear H c5 c6
            go_upto_region 6 with (first | ((with_reducible refine gate_dst (N := 4) rfl ?_); refine box_event ?hg (N := 4) ?hd (cs := #[.int .i64 0, .int .i64 0, .string ⟨#[]⟩]) (t := 81) ?hr ?_; (case hd => rfl); (case hg => rfl); (case hr => first | (go_simp; done) | (go_simp; rfl)); intro gv hgv w5 hbox hb; have HV5 := Aside0.mk hbox; have HB5 := Aside0.mk hb; have HGV := Aside0.mk hgv; have hz0 : w5.cell? ⟨gv, 0, none⟩ = some (.int .i64 0) := (blk_cell hbox 0).trans rfl; have hz1 : w5.cell? ⟨gv, 1, none⟩ = some (.int .i64 0) := (blk_cell hbox 1).trans rfl; have hz2 : w5.cell? ⟨gv, 2, none⟩ = some (.string ⟨#[]⟩) := (blk_cell hbox 2).trans rfl; have hzf0 := blk_frozen hbox 0; have hzf1 := blk_frozen hbox 1; have hzf2 := blk_frozen hbox 2; clear hbox hb hgv))
            have hgw0 : w.heap.size ≤ gv := by rw [HGV.out]; exact HB.out.size
            have HB6 := Aside0.mk (show Below w.heap.size w (((w5.setCell ⟨gv, 0, none⟩ (.int .i64 (rd_T81 l0 x).f0)).setCell ⟨gv, 1, none⟩ (.int .i64 (rd_T81 l0 x).f1)).setCell ⟨gv, 2, none⟩ (.string (rd_T81 l0 x).f2)) from below_set (below_set (below_set (below_step HB.out HB5.out) hgw0) hgw0) hgw0)
            have hv6 := blk_put (cs := #[.int .i64 (rd_T81 l0 x).f0, .int .i64 (rd_T81 l0 x).f1, .string ⟨#[]⟩]) (blk_put (cs := #[.int .i64 (rd_T81 l0 x).f0, .int .i64 0, .string ⟨#[]⟩]) (blk_put HV5.out 0 (.int .i64 (rd_T81 l0 x).f0) rfl) 1 (.int .i64 (rd_T81 l0 x).f1) rfl) 2 (.string (rd_T81 l0 x).f2) rfl
            clear hz0 hz1 hz2 hzf0 hzf1 hzf2 hgw0 HV5 HB5 HGV hx0 hx1 hx2
            clear HB
            have HB := HB6
            clear HB6
            generalize (((w5.setCell ⟨gv, 0, none⟩ (.int .i64 (rd_T81 l0 x).f0)).setCell ⟨gv, 1, none⟩ (.int .i64 (rd_T81 l0 x).f1)).setCell ⟨gv, 2, none⟩ (.string (rd_T81 l0 x).f2)) = w6 at HB hv6 ⊢
            have hy0 : w6.cell? ⟨gv, 0, none⟩ = some (.int .i64 (rd_T81 l0 x).f0) := (blk_cell hv6 0).trans rfl
            have hy1 : w6.cell? ⟨gv, 1, none⟩ = some (.int .i64 (rd_T81 l0 x).f1) := (blk_cell hv6 1).trans rfl
            have hy2 : w6.cell? ⟨gv, 2, none⟩ = some (.string (rd_T81 l0 x).f2) := (blk_cell hv6 2).trans rfl
            clear hv6
            have H := HH.out
            clear HH
            by_cases c8 : cc = 0
            · rw [if_pos c8] at H
              subst c8
              have HH := Aside0.mk H
              clear H
              go_wp2_with (first | (go_at_call 63; refine (impl_valFault.calls k2 _ _ _ 0 _ A7.out).mono ?_; rintro e w9 ⟨rfl, hb⟩; have n0_ := Aside0.mk (below_step HB.out hb); clear HB; have HB := n0_; clear n0_ hb))
              go_roundg k2
              case measure => have := HK.out; omega
              case rel => exact ⟨wrap64 (x + 1), (by first | rfl | (simp; done)), HH, ⟨by have := HK.out; omega⟩, HB⟩
            · rw [if_neg c8] at H
              have c8b1 : (cc != 0) = true := bne_iff_ne.mpr c8
              obtain rfl := Option.some.inj H
              go_wp2_with (first | (go_at_call 63; refine (impl_valFault.calls k2 _ _ _ cc _ A7.out).mono ?_; rintro e w9 ⟨rfl, hb⟩; have n0_ := Aside0.mk (below_step HB.out hb); clear HB; have HB := n0_; clear n0_ hb))
              go_ret
              exact ⟨rfl, HB.out⟩
          · rw [if_neg c6] at H; cases H
        · rw [if_neg c5] at H
          have c5b0 : decide (x < (l0.length : Int)) = false := decide_eq_false c5
          clear c5
          obtain ⟨⟨s1, s2, s3, s4⟩, hv, H⟩ := Option.bind_eq_some_iff.mp H
          have HV := Aside0.mk hv
          have HH := Aside0.mk H
          clear hv H
          go_upto_region 11 with (first | ((with_reducible refine gate_dst (N := 26) rfl ?_); refine box_event ?hg (N := 26) ?hd (cs := #[.slice A0 l0.length c0, .bool false, .bool false, .bool false]) (t := 98) ?hr ?_; (case hd => rfl); (case hg => rfl); (case hr => first | (go_simp; done) | (go_simp; rfl)); intro g hg w5 hbox hb; have HV5 := Aside0.mk hbox; have HB5 := Aside0.mk (below_step HB.out hb); have HGV := Aside0.mk (show w.heap.size ≤ g by rw [hg]; exact HB.out.size); clear hbox hb hg))
          go_upto_block 2 with (first | (go_at_call 64; refine (impl_structure_value.calls g l0 false false false 0 0 s1 s2 s3 s4 w _ ⟨A0, c0, HV5.out, HGV.out, HR0.out⟩ HB5.out HV.out).mono ?_; rintro e w8 ⟨rfl, ⟨A8, c8, hb8, _, _⟩, hbl8, _⟩; have HB8 := Aside0.mk hbl8; have HV8 := Aside0.mk hb8; clear hb8 hbl8))
          have h1 : w8.cell? ⟨g, 1, none⟩ = some (.bool s2) := (blk_cell HV8.out 1).trans rfl
          have h2 : w8.cell? ⟨g, 2, none⟩ = some (.bool s3) := (blk_cell HV8.out 2).trans rfl
          have h3 : w8.cell? ⟨g, 3, none⟩ = some (.bool s4) := (blk_cell HV8.out 3).trans rfl
          have H := HH.out
          clear HH
          cases s2 with
          | true =>
            obtain rfl := Option.some.inj H
            go_wp2
            go_ret
            exact ⟨rfl, HB8.out⟩
          | false =>
            replace H : (if s1 = (l0.length : Int) then (if s3 = true then some 6 else if s4 = true then some 2 else some 0) else some 1) = some r := H
            by_cases c9 : s1 = (l0.length : Int)
            · rw [if_pos c9] at H
              have c9b : (s1 != (l0.length : Int)) = false := bne_eq_false_iff_eq.mpr c9
              clear c9
              cases s3 with
              | true =>
                obtain rfl := Option.some.inj H
                go_wp2
                go_ret
                exact ⟨rfl, HB8.out⟩
              | false =>
                cases s4 with
                | true =>
                  obtain rfl := Option.some.inj H
                  go_wp2
                  go_ret
                  exact ⟨rfl, HB8.out⟩
                | false =>
                  obtain rfl := Option.some.inj H
                  go_wp2
                  go_ret
                  exact ⟨rfl, HB8.out⟩
            · rw [if_neg c9] at H
              have c9b : (s1 != (l0.length : Int)) = true := bne_iff_ne.mpr c9
              clear c9
              obtain rfl := Option.some.inj H
              go_wp2
              go_ret
              exact ⟨rfl, HB8.out⟩
  · rw [if_neg c1] at h
    have c1' := Bool.eq_false_iff.mpr c1
    subst c1'
    obtain rfl := Option.some.inj h
    go_enter Tryd.func31, Tryd.ntmps31
    go_wp2_with (first | (go_at_call 39; refine (impl_in.calls _ _ _ false _ HT.out).mono ?_; rintro e w3 ⟨rfl, hd⟩; have HB := Aside0.mk hd.below; clear hd))
    go_ret
    exact ⟨rfl, HB.out⟩


end Go.Proofs.YthjlbpgiaehjnaaDoor.QFnExactPrintVals
