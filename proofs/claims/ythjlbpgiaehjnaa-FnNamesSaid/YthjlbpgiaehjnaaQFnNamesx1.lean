-- written by this session's program (wip/tools/myprint.py)
import Derived.Test.YthjlbpgiaehjnaaQFnNamesx0
-- squeezed
namespace Go.Proofs.Ythjlbpgiaehjnaa.QFnNames
open Go.RowKit Go.Proofs.YthjlbpgiaehjnaaW.PrintWords Go.Proofs.YthjlbpgiaehjnaaW.PrintLast Go.Proofs.YthjlbpgiaehjnaaW.PrintMore
attribute [local go_sem] max2_int min2_int max_two min_two max_three min_three max_four min_four   -- for this text's walks alone
set_option linter.unusedVariables false
set_option linter.unusedSimpArgs false
set_option maxHeartbeats 8000000
set_option maxRecDepth 100000
def laws_lwBig.f (l0 : List Int) : Option (Bool) := some (decide ((l0.length : Int) > 1048576))
theorem laws_lwBig.calls (A0 : Option Addr) (c0 : Nat) (l0 : List Int) (r : Bool) (w : World) (hr0 : Kd.C (Kd.int .u8) w A0 l0.length l0) (hc0 : l0.length ≤ c0) (h : laws_lwBig.f l0 = some r) :
 Calls Try.prog 10 #[.slice A0 l0.length c0] w fun e w' => e = .returned (.bool r) ∧ Drawn0 w w' := by
 have HR0 := am hr0; have HC0 := am hc0; clear hr0 hc0
 have H : (some (decide ((l0.length : Int) > 1048576))) = some r := h
 clear h
 obtain rfl := sj H
 go_enter Try.func10, Try.ntmps10
 go_wp2
 go_ret
 exact ⟨by first | rfl | (simp; done) | (simp [*]; done), pW⟩
/-- A state of type 129 at block g of W; what its slices lead to came in by w0. -/
def IsS129 (w0 W : World) (g : Nat) (f0 : List Int) (f1 : Int) : Prop := ∃ A0 c0, W.heap[g]? = some (.cells #[.slice A0 f0.length c0, .int .i64 f1] 129 (0, 0)) ∧ w0.heap.size ≤ g ∧ Kd.C (Kd.int .u8) w0 A0 f0.length f0
theorem IsS129.grown {w0 W : World} {g : Nat} {f0 : List Int} {f1 : Int} {W1 : World} {row : Option Nat} (h : IsS129 w0 W g f0 f1) (hw : W.grownBy W1 row) (hne : some g ≠ row) : IsS129 w0 W1 g f0 f1 := by
 obtain ⟨A0, c0, hb, hg, hr0⟩ := h
 exact ⟨A0, c0, blk_grown hb hw hne, hg, hr0⟩
theorem IsS129.own_neN {w0 W : World} {g : Nat} {f0 : List Int} {f1 : Int} {α : Type} {d : Kd α} {e : Nat} {base : Nat} {ok : Nat → Prop} {v : Value} {xs : List α} (h : IsS129 w0 W g f0 f1) (ho : Kd.N d e W base ok v xs) (ht : e ≠ 129) : some g ≠ v.ownBlock := by
 obtain ⟨A0, c0, hb, hg, hr0⟩ := h
 exact Kd.N_ne ho hb ht
theorem IsS129.fresh {w0 W : World} {g : Nat} {f0 : List Int} {f1 : Int} (h : IsS129 w0 W g f0 f1) : ∀ k, W.heap.size ≤ k → k ≠ g := by
 obtain ⟨A0, c0, hb, hg, hr0⟩ := h
 exact Kd.freshB hb
theorem IsS129.kept {w0 W : World} {g : Nat} {f0 : List Int} {f1 : Int} {W1 : World} {S : Nat → Prop} (h : IsS129 w0 W g f0 f1) (hk : Kept W W1 S) (hne : ¬ S g) : IsS129 w0 W1 g f0 f1 := by
 obtain ⟨A0, c0, hb, hg, hr0⟩ := h
 exact ⟨A0, c0, blk_kept hb hk hne, hg, hr0⟩
theorem IsS129.below {w0 W : World} {g : Nat} {f0 : List Int} {f1 : Int} {W1 : World} (h : IsS129 w0 W g f0 f1) (hw : Below W.heap.size W W1) : IsS129 w0 W1 g f0 f1 := h.grown (grown_of_below hw none) (by simp)
theorem IsS129.alloc {w0 W : World} {g : Nat} {f0 : List Int} {f1 : Int} (h : IsS129 w0 W g f0 f1) (o : Obj) : IsS129 w0 (W.alloc o) g f0 f1 := h.below (below_alloc (Below.refl _ _) o)
theorem IsS129.drewN {w0 W : World} {g : Nat} {f0 : List Int} {f1 : Int} (h : IsS129 w0 W g f0 f1) (m : Nat) : IsS129 w0 (W.drewN m) g f0 f1 := h
theorem IsS129.drew {w0 W : World} {g : Nat} {f0 : List Int} {f1 : Int} (h : IsS129 w0 W g f0 f1) : IsS129 w0 W.drew g f0 f1 := h
theorem IsS129.at_ {w0 W : World} {g : Nat} {f0 : List Int} {f1 : Int} {w' : World} {m : Nat} (hq : W.drewN m = w') (h : IsS129 w0 W g f0 f1) : IsS129 w0 w' g f0 f1 := by subst hq; exact IsS129.drewN h m
theorem IsS129.apart {w0 W : World} {g : Nat} {f0 : List Int} {f1 : Int} {α : Type} {d : Kd α} {e : Nat} {base : Nat} {ok : Nat → Prop} {v : Value} {xs : List α} (h : IsS129 w0 W g f0 f1) (ho : d.R e W base ok v xs) (ht : ∀ q, q ∈ e :: d.E → q ≠ 129) : d.R e W base (fun k => ok k ∧ k ≠ g) v xs := by
 obtain ⟨A0, c0, hb, hg, hr0⟩ := h
 exact Kd.R_types ho hb ht
theorem IsS129.own_ne {w0 W : World} {g : Nat} {f0 : List Int} {f1 : Int} {α : Type} {d : Kd α} {e : Nat} {base : Nat} {ok : Nat → Prop} {v : Value} {xs : List α} (h : IsS129 w0 W g f0 f1) (ho : d.R e W base ok v xs) (ht : e ≠ 129) : some g ≠ v.ownBlock := by
 obtain ⟨A0, c0, hb, hg, hr0⟩ := h
 exact Kd.R_ne ho hb ht
theorem IsS129.apartQ {w0 W : World} {g : Nat} {f0 : List Int} {f1 : Int} {α : Type} {d : Kd α} {e : Nat} {base : Nat} {ok : Nat → Prop} {v : Value} {xs : List α} (h : IsS129 w0 W g f0 f1) (ho : d.Q e W base ok v xs) (ht : ∀ q, q ∈ e :: d.E → q ≠ 129) : d.Q e W base (fun k => ok k ∧ k ≠ g) v xs := by
 obtain ⟨A0, c0, hb, hg, hr0⟩ := h
 exact Kd.Q_types ho hb ht
theorem IsS129.own_neQ {w0 W : World} {g : Nat} {f0 : List Int} {f1 : Int} {α : Type} {d : Kd α} {e : Nat} {base : Nat} {ok : Nat → Prop} {v : Value} {xs : List α} (h : IsS129 w0 W g f0 f1) (ho : d.Q e W base ok v xs) (ht : e ≠ 129) : some g ≠ v.ownBlock := by
 obtain ⟨A0, c0, hb, hg, hr0⟩ := h
 exact Kd.Q_ne ho hb ht
theorem IsS129.apartS {w0 W : World} {g : Nat} {f0 : List Int} {f1 : Int} {α : Type} {d : Kd α} {e : Nat} {base : Nat} {ok : Nat → Prop} {v : Value} {xs : List α} (h : IsS129 w0 W g f0 f1) (ho : d.S e W base ok v xs) (ht : ∀ q, q ∈ e :: d.E → q ≠ 129) : d.S e W base (fun k => ok k ∧ k ≠ g) v xs := by
 obtain ⟨A0, c0, hb, hg, hr0⟩ := h
 exact Kd.S_types ho hb ht
theorem IsS129.own_neS {w0 W : World} {g : Nat} {f0 : List Int} {f1 : Int} {α : Type} {d : Kd α} {e : Nat} {base : Nat} {ok : Nat → Prop} {v : Value} {xs : List α} (h : IsS129 w0 W g f0 f1) (ho : d.S e W base ok v xs) (ht : e ≠ 129) : some g ≠ v.ownBlock := by
 obtain ⟨A0, c0, hb, hg, hr0⟩ := h
 exact Kd.S_ne ho hb ht
theorem IsS129.lt {w0 W : World} {g : Nat} {f0 : List Int} {f1 : Int} (h : IsS129 w0 W g f0 f1) : g < W.heap.size := by
 obtain ⟨A0, c0, hb, hg, hr0⟩ := h
 exact blk_lt hb
theorem IsS129.ge {w0 W : World} {g : Nat} {f0 : List Int} {f1 : Int} (h : IsS129 w0 W g f0 f1) : w0.heap.size ≤ g := by
 obtain ⟨A0, c0, hb, hg, hr0⟩ := h
 exact hg
theorem IsS129.ne_blk {w0 W : World} {g : Nat} {f0 : List Int} {f1 : Int} {a : Nat} {cs : Array Value} {t : TypeId} {fr : Nat × Nat} (h : IsS129 w0 W g f0 f1) (hb2 : W.heap[a]? = some (.cells cs t fr)) (ht : t ≠ 129) : g ≠ a := by
 obtain ⟨A0, c0, hb, hg, hr0⟩ := h
 rintro rfl
 rw [hb] at hb2
 injection hb2 with hb2
 injection hb2 with _ ht2
 exact ht ht2.symm
theorem IsS129.far {w0 W : World} {g : Nat} {f0 : List Int} {f1 : Int} {p : Addr} (h : IsS129 w0 W g f0 f1) (hne : g ≠ p.block) (u : Value) : IsS129 w0 (W.setCell p u) g f0 f1 := by
 obtain ⟨A0, c0, hb, hg, hr0⟩ := h
 exact ⟨A0, c0, blk_far hb hne u, hg, hr0⟩
theorem cellS129_0 {W : World} {g : Nat} {A0 : Option Addr} {c0 : Nat} {f0 : List Int} {f1 : Int} (h : W.heap[g]? = some (.cells #[.slice A0 f0.length c0, .int .i64 f1] 129 (0, 0))) : W.cell? ⟨g, 0, none⟩ = some (.slice A0 f0.length c0) := (blk_cell h 0).trans rfl
theorem cellS129_1 {W : World} {g : Nat} {A0 : Option Addr} {c0 : Nat} {f0 : List Int} {f1 : Int} (h : W.heap[g]? = some (.cells #[.slice A0 f0.length c0, .int .i64 f1] 129 (0, 0))) : W.cell? ⟨g, 1, none⟩ = some (.int .i64 f1) := (blk_cell h 1).trans rfl
theorem IsS129.set_1 {w0 W : World} {g : Nat} {f0 : List Int} {f1 : Int} (h : IsS129 w0 W g f0 f1) (x : Int) : IsS129 w0 (W.setCell ⟨g, 1, none⟩ (.int .i64 x)) g f0 x := by
 obtain ⟨A0, c0, hb, hg, hr0⟩ := h
 exact ⟨A0, c0, by simpa using blk_set hb 1 (.int .i64 x), hg, hr0⟩
theorem IsS129.new (w0 W : World) (A0 : Option Addr) (c0 : Nat) (f0 : List Int) (f1 : Int) (hB : Below w0.heap.size w0 W) (hr0 : Kd.C (Kd.int .u8) w0 A0 f0.length f0) : IsS129 w0 (W.alloc (.cells #[.slice A0 f0.length c0, .int .i64 f1] 129)) W.heap.size f0 f1 := ⟨A0, c0, by simpa using heap_alloc_new W _, hB.size, hr0⟩
def spec_l1Next.f (s0_0 : List Int) (s0_1 : Int) (a1 : Int) : Option (Int × Int) := if a1 < 1 then (some (0, wrap64 (s0_1 + 1))) else (if (s0_0.length : Int) = 0 then (if a1 = 0 then (none) else (some (Int.tmod (wrap64 ((wrap64 ((wrap64 (s0_1 + 1)) - 1)) * 7)) a1, wrap64 (s0_1 + 1)))) else (if 0 ≤ (Int.tmod (wrap64 ((wrap64 (s0_1 + 1)) - 1)) (s0_0.length : Int)) then (if (Int.tmod (wrap64 ((wrap64 (s0_1 + 1)) - 1)) (s0_0.length : Int)) < (s0_0.length : Int) then (if a1 > 200 then (if 0 ≤ (Int.tmod (wrap64 ((wrap64 ((wrap64 (s0_1 + 1)) - 1)) + 1)) (s0_0.length : Int)) then (if (Int.tmod (wrap64 ((wrap64 ((wrap64 (s0_1 + 1)) - 1)) + 1)) (s0_0.length : Int)) < (s0_0.length : Int) then (if a1 = 0 then (none) else (some (Int.tmod (wrap64 ((wrap64 ((wrap64 ((wrap64 ((wrap64 (rd s0_0 (Int.tmod (wrap64 ((wrap64 (s0_1 + 1)) - 1)) (s0_0.length : Int)))) + (wrap64 ((wrap64 (Int.tdiv (wrap64 ((wrap64 (s0_1 + 1)) - 1)) (s0_0.length : Int))) * 37)))) * 251)) + (wrap64 ((wrap64 (rd s0_0 (Int.tmod (wrap64 ((wrap64 ((wrap64 (s0_1 + 1)) - 1)) + 1)) (s0_0.length : Int)))) * 13)))) + (wrap64 ((wrap64 (s0_1 + 1)) - 1)))) a1, wrap64 (s0_1 + 1)))) else (none)) else (none)) else (if a1 = 0 then (none) else (some (Int.tmod (wrap64 ((wrap64 (rd s0_0 (Int.tmod (wrap64 ((wrap64 (s0_1 + 1)) - 1)) (s0_0.length : Int)))) + (wrap64 ((wrap64 (Int.tdiv (wrap64 ((wrap64 (s0_1 + 1)) - 1)) (s0_0.length : Int))) * 37)))) a1, wrap64 (s0_1 + 1))))) else (none)) else (none)))
theorem spec_l1Next.calls (g : Nat) (s0_0 : List Int) (s0_1 : Int) (a1 : Int) (r1 : Int) (r2 : Int) (w0 w : World) (hI : IsS129 w0 w g s0_0 s0_1) (hB : Below w0.heap.size w0 w) (h : spec_l1Next.f s0_0 s0_1 a1 = some (r1, r2)) :
 Calls Try.prog 77 #[.pointer (some ⟨g, 0, none⟩), .int .i64 a1] w fun e w' => e = .returned (.int .i64 r1) ∧ IsS129 w0 w' g s0_0 r2 ∧ Below w0.heap.size w0 w' ∧ KeepBut w w' g none := by
 have HI0 := am hI
 have HK := am (KeepBut.refl w g none)
 have HL := am hB.size
 clear hI
 have HW0 := am hB.size
 have HB := am hB; clear hB
 have H : (if a1 < 1 then (some (0, wrap64 (s0_1 + 1))) else (if (s0_0.length : Int) = 0 then (if a1 = 0 then (none) else (some (Int.tmod (wrap64 ((wrap64 ((wrap64 (s0_1 + 1)) - 1)) * 7)) a1, wrap64 (s0_1 + 1)))) else (if 0 ≤ (Int.tmod (wrap64 ((wrap64 (s0_1 + 1)) - 1)) (s0_0.length : Int)) then (if (Int.tmod (wrap64 ((wrap64 (s0_1 + 1)) - 1)) (s0_0.length : Int)) < (s0_0.length : Int) then (if a1 > 200 then (if 0 ≤ (Int.tmod (wrap64 ((wrap64 ((wrap64 (s0_1 + 1)) - 1)) + 1)) (s0_0.length : Int)) then (if (Int.tmod (wrap64 ((wrap64 ((wrap64 (s0_1 + 1)) - 1)) + 1)) (s0_0.length : Int)) < (s0_0.length : Int) then (if a1 = 0 then (none) else (some (Int.tmod (wrap64 ((wrap64 ((wrap64 ((wrap64 ((wrap64 (rd s0_0 (Int.tmod (wrap64 ((wrap64 (s0_1 + 1)) - 1)) (s0_0.length : Int)))) + (wrap64 ((wrap64 (Int.tdiv (wrap64 ((wrap64 (s0_1 + 1)) - 1)) (s0_0.length : Int))) * 37)))) * 251)) + (wrap64 ((wrap64 (rd s0_0 (Int.tmod (wrap64 ((wrap64 ((wrap64 (s0_1 + 1)) - 1)) + 1)) (s0_0.length : Int)))) * 13)))) + (wrap64 ((wrap64 (s0_1 + 1)) - 1)))) a1, wrap64 (s0_1 + 1)))) else (none)) else (none)) else (if a1 = 0 then (none) else (some (Int.tmod (wrap64 ((wrap64 (rd s0_0 (Int.tmod (wrap64 ((wrap64 (s0_1 + 1)) - 1)) (s0_0.length : Int)))) + (wrap64 ((wrap64 (Int.tdiv (wrap64 ((wrap64 (s0_1 + 1)) - 1)) (s0_0.length : Int))) * 37)))) a1, wrap64 (s0_1 + 1))))) else (none)) else (none)))) = some (r1, r2) := h
 clear h
 by_cases c3 : a1 < 1
 · rw [if_pos c3] at H
   have c3b0 : decide (a1 < 1) = true := dt c3
   clear c3
   simp only [Option.some.injEq, Prod.mk.injEq] at H
   obtain ⟨rfl, rfl⟩ := H
   obtain ⟨ASz4_0, cSz4_0, HGz4, hgz4, HSz4_0⟩ := HI0.out
   have hcz4_0 := cellS129_0 HGz4
   have hcz4_1 := cellS129_1 HGz4
   have hfz4_1 := blk_frozen HGz4 1
   clear HGz4 hgz4
   go_enter Try.func77, Try.ntmps77
   go_wp2
   repeat (go_quiet (fail); try go_wp2)
   go_ret
   exact ⟨pE, zd7, zd6, zd4⟩
 · rw [if_neg c3] at H
   have c3b0 : decide (a1 < 1) = false := decide_eq_false c3
   clear c3
   by_cases c5 : (s0_0.length : Int) = 0
   · rw [if_pos c5] at H
     have c5b0 : ((s0_0.length : Int) == 0) = true := beq_iff_eq.mpr c5
     have c5b1 : ((s0_0.length : Int) != 0) = false := bne_eq_false_iff_eq.mpr c5
     clear c5
     by_cases c6 : a1 = 0
     · rw [if_pos c6] at H
       exact absurd H (by simp)
     · rw [if_neg c6] at H
       have c6b0 : (a1 == 0) = false := beq_eq_false_iff_ne.mpr c6
       have c6b1 : (a1 != 0) = true := bne_iff_ne.mpr c6
       simp only [Option.some.injEq, Prod.mk.injEq] at H
       obtain ⟨rfl, rfl⟩ := H
       obtain ⟨ASz7_0, cSz7_0, HGz7, hgz7, HSz7_0⟩ := HI0.out
       have hcz7_0 := cellS129_0 HGz7
       have hcz7_1 := cellS129_1 HGz7
       have hfz7_1 := blk_frozen HGz7 1
       clear HGz7 hgz7
       go_enter Try.func77, Try.ntmps77
       go_wp2
       repeat (go_quiet (fail); try go_wp2)
       go_ret
       exact ⟨pE, zd7, zd6, zd4⟩
   · rw [if_neg c5] at H
     have c5b0 : ((s0_0.length : Int) == 0) = false := beq_eq_false_iff_ne.mpr c5
     have c5b1 : ((s0_0.length : Int) != 0) = true := bne_iff_ne.mpr c5
     have c5b2 : ¬ (s0_0 = []) := fun h_ => c5 (by rw [h_]; rfl)
     obtain ⟨ji8, hji8⟩ : ∃ j_ : Int, (Int.tmod (wrap64 ((wrap64 (s0_1 + 1)) - 1)) (s0_0.length : Int)) = j_ := ⟨_, rfl⟩
     replace H : (if 0 ≤ (ji8) then (if (ji8) < (s0_0.length : Int) then (if a1 > 200 then (if 0 ≤ (Int.tmod (wrap64 ((wrap64 ((wrap64 (s0_1 + 1)) - 1)) + 1)) (s0_0.length : Int)) then (if (Int.tmod (wrap64 ((wrap64 ((wrap64 (s0_1 + 1)) - 1)) + 1)) (s0_0.length : Int)) < (s0_0.length : Int) then (if a1 = 0 then (none) else (some (Int.tmod (wrap64 ((wrap64 ((wrap64 ((wrap64 ((wrap64 (rd s0_0 (ji8))) + (wrap64 ((wrap64 (Int.tdiv (wrap64 ((wrap64 (s0_1 + 1)) - 1)) (s0_0.length : Int))) * 37)))) * 251)) + (wrap64 ((wrap64 (rd s0_0 (Int.tmod (wrap64 ((wrap64 ((wrap64 (s0_1 + 1)) - 1)) + 1)) (s0_0.length : Int)))) * 13)))) + (wrap64 ((wrap64 (s0_1 + 1)) - 1)))) a1, wrap64 (s0_1 + 1)))) else (none)) else (none)) else (if a1 = 0 then (none) else (some (Int.tmod (wrap64 ((wrap64 (rd s0_0 (ji8))) + (wrap64 ((wrap64 (Int.tdiv (wrap64 ((wrap64 (s0_1 + 1)) - 1)) (s0_0.length : Int))) * 37)))) a1, wrap64 (s0_1 + 1))))) else (none)) else (none)) = some (r1, r2) := by first | (rw [hji8] at H; exact H) | (simp only [hji8] at H ⊢; exact H)
     by_cases c9 : 0 ≤ (ji8)
     · rw [if_pos c9] at H
       have c9b0 : decide (0 ≤ (ji8)) = true := dt c9
       clear c9
       by_cases c10 : (ji8) < (s0_0.length : Int)
       · rw [if_pos c10] at H
         have c10b0 : decide ((ji8) < (s0_0.length : Int)) = true := dt c10
         clear c10
         by_cases c11 : a1 > 200
         · rw [if_pos c11] at H
           have c11b0 : decide (200 < a1) = true := dt c11
           clear c11
           obtain ⟨ji12, hji12⟩ : ∃ j_ : Int, (Int.tmod (wrap64 ((wrap64 ((wrap64 (s0_1 + 1)) - 1)) + 1)) (s0_0.length : Int)) = j_ := ⟨_, rfl⟩
           replace H : (if 0 ≤ (ji12) then (if (ji12) < (s0_0.length : Int) then (if a1 = 0 then (none) else (some (Int.tmod (wrap64 ((wrap64 ((wrap64 ((wrap64 ((wrap64 (rd s0_0 (ji8))) + (wrap64 ((wrap64 (Int.tdiv (wrap64 ((wrap64 (s0_1 + 1)) - 1)) (s0_0.length : Int))) * 37)))) * 251)) + (wrap64 ((wrap64 (rd s0_0 (ji12))) * 13)))) + (wrap64 ((wrap64 (s0_1 + 1)) - 1)))) a1, wrap64 (s0_1 + 1)))) else (none)) else (none)) = some (r1, r2) := by first | (rw [hji12] at H; exact H) | (simp only [hji12] at H ⊢; exact H)
           by_cases c13 : 0 ≤ (ji12)
           · rw [if_pos c13] at H
             have c13b0 : decide (0 ≤ (ji12)) = true := dt c13
             clear c13
             by_cases c14 : (ji12) < (s0_0.length : Int)
             · rw [if_pos c14] at H
               have c14b0 : decide ((ji12) < (s0_0.length : Int)) = true := dt c14
               clear c14
               by_cases c15 : a1 = 0
               · rw [if_pos c15] at H
                 exact absurd H (by simp)
               · rw [if_neg c15] at H
                 have c15b0 : (a1 == 0) = false := beq_eq_false_iff_ne.mpr c15
                 have c15b1 : (a1 != 0) = true := bne_iff_ne.mpr c15
                 simp only [Option.some.injEq, Prod.mk.injEq] at H
                 obtain ⟨rfl, rfl⟩ := H
                 obtain ⟨ASz16_0, cSz16_0, HGz16, hgz16, HSz16_0⟩ := HI0.out
                 have hcz16_0 := cellS129_0 HGz16
                 have hcz16_1 := cellS129_1 HGz16
                 have hfz16_1 := blk_frozen HGz16 1
                 clear HGz16 hgz16
                 have p101 : 0 ≤ ((ji8) : Int) := pD
                 have q101 : (ji8) < (s0_0.length : Int) := pD
                 obtain ⟨ad101, e101, hx101_0⟩ := Kd.at_int HSz16_0 (ji8) p101 q101
                 cases e101
                 have hn101_0 : ad101.block ≠ g := Nat.ne_of_lt (Nat.lt_of_lt_of_le (by have := World.block_lt_of_cell? _ _ hx101_0; first | rwa [add_block] at this | exact this) (IsS129.ge HI0.out))
                 replace hx101_0 := pw_cell_below HB.out hx101_0
                 replace hx101_0 := (cell_far (p := ⟨g, 1, none⟩) (by first | (rw [add_block]; exact hn101_0) | (show (Addr.add _ _).block ≠ _; rw [add_block]; exact hn101_0) | exact hn101_0) (.int .i64 (wrap64 (s0_1 + 1)))).trans hx101_0
                 (try have hy101_0 := fun (n_ : Nat) => (show (((w.drewN n_).setCell ⟨g, 1, none⟩ (.int .i64 (wrap64 (s0_1 + 1))))).cell? _ = some _ from hx101_0))
                 clear hn101_0; replace p101 := eq_true p101; replace q101 := eq_true q101
                 have p102 : 0 ≤ ((ji12) : Int) := pD
                 have q102 : (ji12) < (s0_0.length : Int) := pD
                 obtain ⟨ad102, e102, hx102_0⟩ := Kd.at_int HSz16_0 (ji12) p102 q102
                 obtain rfl : ad101 = ad102 := (by injection e102)
                 have hn102_0 : ad101.block ≠ g := Nat.ne_of_lt (Nat.lt_of_lt_of_le (by have := World.block_lt_of_cell? _ _ hx102_0; first | rwa [add_block] at this | exact this) (IsS129.ge HI0.out))
                 replace hx102_0 := pw_cell_below HB.out hx102_0
                 replace hx102_0 := (cell_far (p := ⟨g, 1, none⟩) (by first | (rw [add_block]; exact hn102_0) | (show (Addr.add _ _).block ≠ _; rw [add_block]; exact hn102_0) | exact hn102_0) (.int .i64 (wrap64 (s0_1 + 1)))).trans hx102_0
                 (try have hy102_0 := fun (n_ : Nat) => (show (((w.drewN n_).setCell ⟨g, 1, none⟩ (.int .i64 (wrap64 (s0_1 + 1))))).cell? _ = some _ from hx102_0))
                 clear hn102_0; replace p102 := eq_true p102; replace q102 := eq_true q102
                 go_enter Try.func77, Try.ntmps77
                 go_wp2
                 repeat (go_quiet (fail); try go_wp2)
                 go_ret
                 exact ⟨by first | rfl | (simp [errW_none, errW_some] <;> rfl) | (simp only [← hji8, ← hji12]; first | rfl | (simp [errW_none, errW_some] <;> rfl)) | (simp [*, errW_none, errW_some] <;> rfl), zd7, zd6, zd4⟩
             · rw [if_neg c14] at H
               exact absurd H (by simp)
           · rw [if_neg c13] at H
             exact absurd H (by simp)
         · rw [if_neg c11] at H
           have c11b0 : decide (200 < a1) = false := decide_eq_false c11
           clear c11
           by_cases c17 : a1 = 0
           · rw [if_pos c17] at H
             exact absurd H (by simp)
           · rw [if_neg c17] at H
             have c17b0 : (a1 == 0) = false := beq_eq_false_iff_ne.mpr c17
             have c17b1 : (a1 != 0) = true := bne_iff_ne.mpr c17
             simp only [Option.some.injEq, Prod.mk.injEq] at H
             obtain ⟨rfl, rfl⟩ := H
             obtain ⟨ASz18_0, cSz18_0, HGz18, hgz18, HSz18_0⟩ := HI0.out
             have hcz18_0 := cellS129_0 HGz18
             have hcz18_1 := cellS129_1 HGz18
             have hfz18_1 := blk_frozen HGz18 1
             clear HGz18 hgz18
             have p101 : 0 ≤ ((ji8) : Int) := pD
             have q101 : (ji8) < (s0_0.length : Int) := pD
             obtain ⟨ad101, e101, hx101_0⟩ := Kd.at_int HSz18_0 (ji8) p101 q101
             cases e101
             have hn101_0 : ad101.block ≠ g := Nat.ne_of_lt (Nat.lt_of_lt_of_le (by have := World.block_lt_of_cell? _ _ hx101_0; first | rwa [add_block] at this | exact this) (IsS129.ge HI0.out))
             replace hx101_0 := pw_cell_below HB.out hx101_0
             replace hx101_0 := (cell_far (p := ⟨g, 1, none⟩) (by first | (rw [add_block]; exact hn101_0) | (show (Addr.add _ _).block ≠ _; rw [add_block]; exact hn101_0) | exact hn101_0) (.int .i64 (wrap64 (s0_1 + 1)))).trans hx101_0
             (try have hy101_0 := fun (n_ : Nat) => (show (((w.drewN n_).setCell ⟨g, 1, none⟩ (.int .i64 (wrap64 (s0_1 + 1))))).cell? _ = some _ from hx101_0))
             clear hn101_0; replace p101 := eq_true p101; replace q101 := eq_true q101
             go_enter Try.func77, Try.ntmps77
             go_wp2
             repeat (go_quiet (fail); try go_wp2)
             go_ret
             exact ⟨by first | rfl | (simp [errW_none, errW_some] <;> rfl) | (simp only [← hji8]; first | rfl | (simp [errW_none, errW_some] <;> rfl)) | (simp [*, errW_none, errW_some] <;> rfl), zd7, zd6, zd4⟩
       · rw [if_neg c10] at H
         exact absurd H (by simp)
     · rw [if_neg c9] at H
       exact absurd H (by simp)
def spec_l1Pick.f (s0_0 : List Int) (s0_1 : Int) (l1 : List Int) : Option (Int × Int) := (spec_l1Next.f s0_0 s0_1 (l1.length : Int)).bind fun bt103 => (if 0 ≤ bt103.1 then (if bt103.1 < (l1.length : Int) then (some (rd l1 bt103.1, bt103.2)) else (none)) else (none))
theorem spec_l1Pick.calls (g : Nat) (s0_0 : List Int) (s0_1 : Int) (A1 : Option Addr) (c1 : Nat) (l1 : List Int) (r1 : Int) (r2 : Int) (w0 w : World) (hI : IsS129 w0 w g s0_0 s0_1) (hB : Below w0.heap.size w0 w) (hr1 : Kd.C (Kd.int .i64) w A1 l1.length l1) (hc1 : l1.length ≤ c1) (hf1 : ∀ ad, A1 = some ad → 0 < l1.length → ad.block ≠ g) (h : spec_l1Pick.f s0_0 s0_1 l1 = some (r1, r2)) :
 Calls Try.prog 78 #[.pointer (some ⟨g, 0, none⟩), .slice A1 l1.length c1] w fun e w' => e = .returned (.int .i64 r1) ∧ IsS129 w0 w' g s0_0 r2 ∧ Below w0.heap.size w0 w' ∧ KeepBut w w' g none := by
 have HR1 := am hr1; have HC1 := am hc1; clear hr1 hc1; have HI0 := am hI
 have HK := am (KeepBut.refl w g none)
 have HL := am hB.size
 clear hI
 have HW0 := am hB.size
 have HB := am hB; clear hB
 have H : ((spec_l1Next.f s0_0 s0_1 (l1.length : Int)).bind fun bt103 => (if 0 ≤ bt103.1 then (if bt103.1 < (l1.length : Int) then (some (rd l1 bt103.1, bt103.2)) else (none)) else (none))) = some (r1, r2) := h
 clear h
 obtain ⟨⟨t103, t104⟩, A30, H⟩ := bO H
 replace H : (if 0 ≤ t103 then (if t103 < (l1.length : Int) then (some (rd l1 t103, t104)) else (none)) else (none)) = some (r1, r2) := H
 have A3 := am A30; clear A30
 by_cases c4 : 0 ≤ t103
 · rw [if_pos c4] at H
   have c4b0 : decide (0 ≤ t103) = true := dt c4
   clear c4
   by_cases c5 : t103 < (l1.length : Int)
   · rw [if_pos c5] at H
     have c5b0 : decide (t103 < (l1.length : Int)) = true := dt c5
     clear c5
     simp only [Option.some.injEq, Prod.mk.injEq] at H
     obtain ⟨rfl, rfl⟩ := H
     go_enter Try.func78, Try.ntmps78
     go_wp2_with (first | ((with_reducible refine gC (f := 77) rfl ?_); refine goesL_ (some 9) rfl rfl Try.func77 (by kernel_rfl) rfl #[.pointer (some ⟨g, 0, none⟩), .int .i64 (l1.length : Int)] rfl pA ?_; (with_reducible refine (spec_l1Next.calls g s0_0 s0_1 (l1.length : Int) t103 t104 w0 _ ?side1 ?side2 A3.out).mono ?_); (case side1 => exact zd7); (case side2 => exact zd6); rintro e w6 ⟨rfl, hi, hb, hk⟩; refine ⟨_, rfl, ?_⟩; have n_ := t3 (KeepBut.trans zd4 hk (.inl rfl)) (hb) (hi); clear HK HB HI0; obtain ⟨HK, HB, HI0⟩ := n_; (try clear hb); (try clear hk); (try clear hi); have p105 : 0 ≤ (t103 : Int) := pD; have q105 : t103 < (l1.length : Int) := pD; obtain ⟨ad105, e105, hx105_0⟩ := Kd.at_int HR1.out t103 p105 q105; cases e105; replace hx105_0 := keep_cell HK.out hx105_0 (by first | (rw [add_block]; exact hf1 _ rfl (by omega)) | exact hf1 _ rfl (by omega) | exact hf1 ad105 rfl (by omega)); replace p105 := eq_true p105; replace q105 := eq_true q105))
     go_ret
     exact ⟨pE, zd7, zd6, zd4⟩
   · rw [if_neg c5] at H
     exact absurd H (by simp)
 · rw [if_neg c4] at H
   exact absurd H (by simp)
def spec_l2KeyLock.f (a0 : Int) : Option (List Int) := some (([wrap64 (100 + a0), 8] : List Int))
theorem spec_l2KeyLock.calls (a0 : Int) (r : List Int) (w : World) (h : spec_l2KeyLock.f a0 = some r) :
 Calls Try.prog 147 #[.int .i64 a0] w fun e w' => ∃ v0_ : Value, e = .returned (v0_) ∧ Kd.R (Kd.int .i64) 2 w' w.heap.size (fun _ => True) v0_ r ∧ Below w.heap.size w w' := by
 have HB := am (Below.refl w.heap.size w)
 have H : (some (([wrap64 (100 + a0), 8] : List Int))) = some r := h
 clear h
 obtain ⟨y106, hy106⟩ : ∃ y_ : List Int, y_ = (([wrap64 (100 + a0), 8] : List Int)) := ⟨_, rfl⟩
 replace H : (some y106) = some r := by first | (rw [hy106]; with_reducible exact H) | (have H2_ := (Option.bind_some _ _).symm.trans H; rw [hy106]; with_reducible exact H2_) | (have H2_ := (Option.bind_some _ _).symm.trans H; with_reducible exact H2_) | with_reducible exact H | (rw [hy106]; exact H) | exact H
 have Ny106 := am hy106; clear hy106
 obtain rfl := sj H
 go_enter Try.func147, Try.ntmps147
 go_wp2_with (first | ((with_reducible refine gate_dst (N := 5) rfl ?_); refine Kd.R_lit (Kd.int .i64) _ 2 ?hg (N := 5) ?hd (xs := ([wrap64 (100 + a0), 8] : List Int)) (inner := [.int .i64 (wrap64 (100 + a0)), .int .i64 8]) (ok := fun _ => True) (okp := fun _ => True) ?hr ?hp (fun _ hk => hk) trivial (Below.refl _ _) (Nat.le_refl _) (by simp) ?_; (case hd => rfl); (case hg => rfl); (case hr => first | (go_simp; done) | (go_simp; rfl)); (case hp => exact (Reps.one (show Kd.M (Kd.int .i64) _ _ _ (wrap64 (100 + a0)) [.int .i64 (wrap64 (100 + a0))] from rfl) (Reps.one (show Kd.M (Kd.int .i64) _ _ _ 8 [.int .i64 8] from rfl) (Reps.none _ _)))); intro v107 w2 ho3 hb hg_ hnew_; clear hg_ hnew_; (first | rw [← Ny106.out] at ho3 | (simp only [Int.reduceToNat] at ho3; rw [← Ny106.out] at ho3)); have n_ := t2 (rL ho3 (bs_ pB)) (bz_ pB hb); clear HB; obtain ⟨HO108, HB⟩ := n_; clear hb ho3))
 go_ret
 exact ⟨_, pE, (pR HO108), pB⟩
def spec_l2DrawKey.f (s0_0 : List Int) (s0_1 : Int) : Option (Int × Int) := (spec_l1Pick.f s0_0 s0_1 (([1, 2, 3, 899] : List Int))).bind fun bt112 => (some (bt112.1, bt112.2))
theorem spec_l2DrawKey.calls (g : Nat) (s0_0 : List Int) (s0_1 : Int) (r1 : Int) (r2 : Int) (w0 w : World) (hI : IsS129 w0 w g s0_0 s0_1) (hB : Below w0.heap.size w0 w) (h : spec_l2DrawKey.f s0_0 s0_1 = some (r1, r2)) :
 Calls Try.prog 148 #[.pointer (some ⟨g, 0, none⟩)] w fun e w' => e = .returned (.int .i64 r1) ∧ IsS129 w0 w' g s0_0 r2 ∧ Below w0.heap.size w0 w' ∧ KeepBut w w' g none := by
 have HI0 := am hI
 have HK := am (KeepBut.refl w g none)
 have HL := am hB.size
 clear hI
 have HW0 := am hB.size
 have HB := am hB; clear hB
 have H : ((spec_l1Pick.f s0_0 s0_1 (([1, 2, 3, 899] : List Int))).bind fun bt112 => (some (bt112.1, bt112.2))) = some (r1, r2) := h
 clear h
 obtain ⟨y109, hy109⟩ : ∃ y_ : List Int, y_ = (([1, 2, 3, 899] : List Int)) := ⟨_, rfl⟩
 replace H : ((spec_l1Pick.f s0_0 s0_1 y109).bind fun bt112 => (some (bt112.1, bt112.2))) = some (r1, r2) := by first | (rw [hy109]; with_reducible exact H) | (have H2_ := (Option.bind_some _ _).symm.trans H; rw [hy109]; with_reducible exact H2_) | (have H2_ := (Option.bind_some _ _).symm.trans H; with_reducible exact H2_) | with_reducible exact H | (rw [hy109]; exact H) | exact H
 have Ny109 := am hy109; clear hy109
 obtain ⟨⟨t112, t113⟩, A20, H⟩ := bO H
 replace H : (some (t112, t113)) = some (r1, r2) := H
 have A2 := am A20; clear A20
 simp only [Option.some.injEq, Prod.mk.injEq] at H
 obtain ⟨rfl, rfl⟩ := H
 go_enter Try.func148, Try.ntmps148
 go_wp2_with (first | ((with_reducible refine gate_dst (N := 4) rfl ?_); refine Kd.R_lit (Kd.int .i64) _ 2 ?hg (N := 4) ?hd (xs := ([1, 2, 3, 899] : List Int)) (inner := [.int .i64 1, .int .i64 2, .int .i64 3, .int .i64 899]) (ok := fun _ => True) (okp := fun _ => True) ?hr ?hp (fun _ hk => hk) trivial (Below.refl _ _) (Nat.le_refl _) (by simp) ?_; (case hd => rfl); (case hg => rfl); (case hr => first | (go_simp; done) | (go_simp; rfl)); (case hp => exact (Reps.one (show Kd.M (Kd.int .i64) _ _ _ 1 [.int .i64 1] from rfl) (Reps.one (show Kd.M (Kd.int .i64) _ _ _ 2 [.int .i64 2] from rfl) (Reps.one (show Kd.M (Kd.int .i64) _ _ _ 3 [.int .i64 3] from rfl) (Reps.one (show Kd.M (Kd.int .i64) _ _ _ 899 [.int .i64 899] from rfl) (Reps.none _ _)))))); intro v110 w3 ho4 hb hg_ hnew_; clear hg_ hnew_; (first | rw [← Ny109.out] at ho4 | (simp only [Int.reduceToNat] at ho4; rw [← Ny109.out] at ho4)); have n_ := t4 (rL ho4 (keep_size (w := w) (g := g) (row := none) zd4)) (IsS129.below zd7 hb) (KeepBut.trans zd4 (KeepBut.of_below hb g none) (.inl rfl)) (bz_ zd6 hb); clear HI0 HK HB; obtain ⟨HO111, HI0, HK, HB⟩ := n_; clear hb ho4; obtain ⟨Ao5, co5, eo5⟩ := rS HO111.out; subst eo5) | ((with_reducible refine gC (f := 78) rfl ?_); refine goesL_ (some 5) rfl rfl Try.func78 (by kernel_rfl) rfl #[.pointer (some ⟨g, 0, none⟩), .slice Ao5 y109.length co5] rfl pA ?_; (with_reducible refine (spec_l1Pick.calls g s0_0 s0_1 _ _ y109 t112 t113 w0 _ ?side1 ?side2 ?side3 ?side4 ?side5 A2.out).mono ?_); (case side1 => exact zd7); (case side2 => exact zd6); (case side3 => exact pC (rr HO111.out).2.2); (case side4 => exact (rr HO111.out).2.1); (case side5 => exact far_slice (IsS129.own_ne HI0.out HO111.out (by decide))); rintro e w6 ⟨rfl, hi, hb, hk⟩; refine ⟨_, rfl, ?_⟩; have n_ := t4 (Kd.R_mono (Kd.R_keep (IsS129.apart (show IsS129 w0 _ g s0_0 s0_1 from by repeat (first | (with_reducible first | exact HI0.out | apply IsS129.alloc | apply IsS129.drewN | apply IsS129.drew | apply IsS129.set_1) | exact HI0.out)) (pR HO111) (by decide)) hk (fun _ h => h.2)) (fun _ h => h.1)) (KeepBut.trans zd4 hk (.inl rfl)) (hb) (hi); clear HO111 HK HB HI0; obtain ⟨HO111, HK, HB, HI0⟩ := n_; (try clear hb); (try clear hk); (try clear hi)))
 go_ret
 exact ⟨pE, zd7, zd6, zd4⟩
def spec_l1In.f (a0 : Int) (a1 : Int) (a2 : Int) : Option (Bool) := if a0 ≥ a1 then (some (decide (a0 ≤ a2))) else (some false)
theorem spec_l1In.calls (a0 : Int) (a1 : Int) (a2 : Int) (r : Bool) (w : World) (h : spec_l1In.f a0 a1 a2 = some r) :
 Calls Try.prog 81 #[.int .i64 a0, .int .i64 a1, .int .i64 a2] w fun e w' => e = .returned (.bool r) ∧ Drawn0 w w' := by
 have H : (if a0 ≥ a1 then (some (decide (a0 ≤ a2))) else (some false)) = some r := h
 clear h
 by_cases c4 : a0 ≥ a1
 · rw [if_pos c4] at H
   have c4b0 : decide (a1 ≤ a0) = true := dt c4
   clear c4
   obtain rfl := sj H
   go_enter Try.func81, Try.ntmps81
   go_wp2
   go_ret
   exact ⟨by first | rfl | (simp; done) | (simp [*]; done), pW⟩
 · rw [if_neg c4] at H
   have c4b0 : decide (a1 ≤ a0) = false := decide_eq_false c4
   clear c4
   obtain rfl := sj H
   go_enter Try.func81, Try.ntmps81
   go_wp2
   go_ret
   exact ⟨by first | rfl | (simp; done) | (simp [*]; done), pW⟩
def spec_l2Key.f (a0 : Int) : Option (Bool) := (spec_l1In.f a0 0 899).bind fun t114 => (some t114)
theorem spec_l2Key.calls (a0 : Int) (r : Bool) (w : World) (h : spec_l2Key.f a0 = some r) :
 Calls Try.prog 157 #[.int .i64 a0] w fun e w' => e = .returned (.bool r) ∧ Drawn0 w w' := by
 have H : ((spec_l1In.f a0 0 899).bind fun t114 => (some t114)) = some r := h
 clear h
 obtain ⟨t114, A20, H⟩ := bO H
 replace H : (some t114) = some r := H
 have A2 := am A20; clear A20
 obtain rfl := sj H
 go_enter Try.func157, Try.ntmps157
 go_wp2_with (first | ((with_reducible refine gC (f := 81) rfl ?_); refine goesL_ (some 4) rfl rfl Try.func81 (by kernel_rfl) rfl #[.int .i64 a0, .int .i64 0, .int .i64 899] rfl pA ?_; (with_reducible refine (spec_l1In.calls a0 0 899 t114 _ A2.out).mono ?_); rintro e w' ⟨rfl, ⟨nd, rfl⟩⟩; refine ⟨_, rfl, ?_⟩))
 go_ret
 exact ⟨by first | rfl | (simp; done) | (simp [*]; done), pW⟩
def spec_PairLock.j0 : Nat → Int → Int → Bool → Option (Int × List Int)
 | 0, _, _, _ => none
 | k + 1, x0, x1, x12 => if x12 = true then (some (3, ([] : List Int))) else ((spec_l2KeyLock.f x0).bind fun t118 => (if t118.length < 17592186044416 then ((some (t118 ++ [6] : List Int)).bind fun y121 => ((spec_l2KeyLock.f x1).bind fun t124 => (if y121.length + t124.length < 17592186044416 then (some (0, (y121 ++ t124))) else (none)))) else (none)))
def spec_PairLock.f (k : Nat) (a0 : Int) (a1 : Int) : Option (Int × List Int) := (spec_l2Key.f a0).bind fun t116 => (if t116 = true then ((spec_l2Key.f a1).bind fun t117 => (spec_PairLock.j0 k a0 a1 (!t117))) else (spec_PairLock.j0 k a0 a1 true))
theorem spec_PairLock.mono_l : ∀ k, (∀ y0 y1 y2, LeO (spec_PairLock.j0 k y0 y1 y2) (spec_PairLock.j0 (k + 1) y0 y1 y2))
 | 0 => fun _ _ _ r h => by simp [spec_PairLock.j0] at h
 | k + 1 => by
  have ih0 := spec_PairLock.mono_l k
  · intro y0 y1 y2
    unfold spec_PairLock.j0
    repeat' with_reducible first | exact ih0 _ _ _ | exact LeO.refl _ | exact LeO.none _ | refine LeO.ite ?_ ?_ | refine LeO.bind ?_ (fun _ => ?_)
theorem spec_PairLock.mono : ∀ a0 a1 k, LeO (spec_PairLock.f k a0 a1) (spec_PairLock.f (k + 1) a0 a1) := by
 intro a0 a1 k
 have ih0 := spec_PairLock.mono_l k
 unfold spec_PairLock.f
 repeat' with_reducible first | exact ih0 _ _ _ | exact LeO.refl _ | exact LeO.none _ | refine LeO.ite ?_ ?_ | refine LeO.bind ?_ (fun _ => ?_)
theorem spec_PairLock.calls (k : Nat) (a0 : Int) (a1 : Int) (r1 : Int) (r2 : List Int) (w : World) (h : spec_PairLock.f k a0 a1 = some (r1, r2)) :
 Calls Try.prog 149 #[.int .i64 a0, .int .i64 a1] w fun e w' => ∃ v1_ : Value, e = .returned (.agg #[.int .i64 r1, v1_]) ∧ Kd.R (Kd.int .i64) 2 w' w.heap.size (fun _ => True) v1_ r2 ∧ Below w.heap.size w w' := by
 have hu157 := Try.underlying157
 have HB := am (Below.refl w.heap.size w)
 have H : ((spec_l2Key.f a0).bind fun t116 => (if t116 = true then ((spec_l2Key.f a1).bind fun t117 => (spec_PairLock.j0 k a0 a1 (!t117))) else (spec_PairLock.j0 k a0 a1 true))) = some (r1, r2) := h
 clear h; have HC3 := am H; clear H
 go_enter Try.func149, Try.ntmps149
 go_upto_region 1 with (first | ((with_reducible refine gate_dst (N := 4) rfl ?_); refine box_event ?hg (N := 4) ?hd (cs := #[.int .i64 0, .slice none 0 0]) (t := 157) ?hr ?_; (case hd => rfl); (case hg => rfl); (case hr => first | (go_simp; done) | (go_simp; rfl)); intro gb115 hg w4 hbox hb; have n_ := t4 (bz_ pB hb) (hbox) ((by rw [hg]; exact (bs_ pB) : w.heap.size ≤ gb115)) ((by rw [hg]; exact (bs_ pB) : w.heap.size ≤ gb115)); clear HB; obtain ⟨HB, BK115, GW115, GE115⟩ := n_; clear hb hbox hg))
 (try simp only [Act.put, List.setIfInBounds_toArray, List.set_cons_zero, List.set_cons_succ])
 go_cut [12] (fun v12 wc => ∃ (kq : Nat) (x12_2 : Bool), v12 = .bool x12_2 ∧ Aside0 (spec_PairLock.j0 kq a0 a1 x12_2 = some (r1, r2)) ∧ Aside0 (kq ≤ k) ∧ Aside0 (wc.heap[gb115]? = some (.cells #[.int .i64 0, (.slice none 0 0)] 157 (0, 0))) ∧ Aside0 (Below w.heap.size w wc))
 case first =>
  have H := HC3.out
  clear HC3
  obtain ⟨t116, A50, H⟩ := bO H
  replace H : (if t116 = true then ((spec_l2Key.f a1).bind fun t117 => (spec_PairLock.j0 k a0 a1 (!t117))) else (spec_PairLock.j0 k a0 a1 true)) = some (r1, r2) := H
  have A5 := am A50; clear A50
  by_cases c6 : t116 = true
  · subst c6
    have H1 : ((spec_l2Key.f a1).bind fun t117 => (spec_PairLock.j0 k a0 a1 (!t117))) = some (r1, r2) := by rw [if_pos rfl] at H; exact H
    clear H; have H := H1; clear H1
    obtain ⟨t117, A70, H⟩ := bO H
    replace H : (spec_PairLock.j0 k a0 a1 (!t117)) = some (r1, r2) := H
    have A7 := am A70; clear A70
    have H' := am H
    clear H
    go_wp2_with (first | ((with_reducible refine gC (f := 157) rfl ?_); refine goesL_ (some 6) rfl rfl Try.func157 (by kernel_rfl) rfl #[.int .i64 a0] rfl pA ?_; (with_reducible refine (spec_l2Key.calls a0 true _ A5.out).mono ?_); rintro e w' ⟨rfl, ⟨nd, rfl⟩⟩; refine ⟨_, rfl, ?_⟩) | (go_at_call 157; (with_reducible refine (spec_l2Key.calls a1 t117 _ A7.out).mono ?_); rintro e w' ⟨rfl, ⟨nd, rfl⟩⟩))
    go_meet
    case rel => exact ⟨_, (!t117), pF, H', ⟨by first | omega | exact Nat.le_refl _⟩, ⟨(pK BK115)⟩, ⟨pB⟩⟩
  · replace c6 := Bool.eq_false_iff.mpr c6
    subst c6
    have H1 : (spec_PairLock.j0 k a0 a1 true) = some (r1, r2) := by rw [if_neg (show ¬ (false = true) by decide)] at H; exact H
    clear H; have H := H1; clear H1
    have H' := am H
    clear H
    go_wp2_with (first | ((with_reducible refine gC (f := 157) rfl ?_); refine goesL_ (some 6) rfl rfl Try.func157 (by kernel_rfl) rfl #[.int .i64 a0] rfl pA ?_; (with_reducible refine (spec_l2Key.calls a0 false _ A5.out).mono ?_); rintro e w' ⟨rfl, ⟨nd, rfl⟩⟩; refine ⟨_, rfl, ?_⟩))
    go_meet
    case rel => exact ⟨_, (true), pF, H', ⟨by first | omega | exact Nat.le_refl _⟩, ⟨(pK BK115)⟩, ⟨pB⟩⟩
 case rest =>
  clear HC3
  obtain ⟨kq, x12_2, rfl, HA, HJ2, BK115, HB⟩ := hcut
  cases kq with
  | zero => exact absurd HA.out (by simp [spec_PairLock.j0])
  | succ kj2 =>
   have H := HA.out
   clear HA
   simp only [spec_PairLock.j0] at H
   by_cases c8 : x12_2 = true
   · subst c8
     have H1 : (some (3, ([] : List Int))) = some (r1, r2) := by rw [if_pos rfl] at H; exact H
     clear H; have H := H1; clear H1
     simp only [Option.some.injEq, Prod.mk.injEq] at H
     obtain ⟨rfl, rfl⟩ := H
     obtain ⟨hcz9_0, hcz9_1, hfz9_0, hfz9_1⟩ := bx2 BK115
     go_wp2
     refine bodyPost_ret (results_cell_row rfl _ _ gb115 157 #[.int .i64 3, .slice none 0 0] (0, 0) _ rfl (by (with_reducible repeat (first | refine blk_drewN ?_ _ | refine blk_drew ?_ | refine blk_alloc ?_ _)); refine blk_put (cs := #[.int .i64 3, .slice none 0 0]) ?_ 1 _ rfl; (with_reducible repeat (first | refine blk_drewN ?_ _ | refine blk_drew ?_ | refine blk_alloc ?_ _)); refine blk_put (cs := #[.int .i64 0, .slice none 0 0]) ?_ 0 _ rfl; (with_reducible repeat (first | refine blk_drewN ?_ _ | refine blk_drew ?_ | refine blk_alloc ?_ _)); exact BK115.out) Try.underlying157 rfl (by kernel_rfl)) rfl ?_
     exact ⟨_, pE, by first | exact Kd.R_nil _ _ _ _ _ | exact Kd.N_nil _ _ _ _ _ | exact Kd.V_nil _ _ _ _ _ | exact Kd.Q_nil _ _ _ _ _ | exact Kd.S_nil _ _ _ _ _, pB⟩
   · replace c8 := Bool.eq_false_iff.mpr c8
     subst c8
     have H1 : ((spec_l2KeyLock.f a0).bind fun t118 => (if t118.length < 17592186044416 then ((some (t118 ++ [6] : List Int)).bind fun y121 => ((spec_l2KeyLock.f a1).bind fun t124 => (if y121.length + t124.length < 17592186044416 then (some (0, (y121 ++ t124))) else (none)))) else (none))) = some (r1, r2) := by rw [if_neg (show ¬ (false = true) by decide)] at H; exact H
     clear H; have H := H1; clear H1
     obtain ⟨t118, A100, H⟩ := bO H
     replace H : (if t118.length < 17592186044416 then ((some (t118 ++ [6] : List Int)).bind fun y121 => ((spec_l2KeyLock.f a1).bind fun t124 => (if y121.length + t124.length < 17592186044416 then (some (0, (y121 ++ t124))) else (none)))) else (none)) = some (r1, r2) := H
     have A10 := am A100; clear A100
     by_cases c11 : t118.length < 17592186044416
     · rw [if_pos c11] at H
       have LMc11 := am c11; clear c11
       obtain ⟨y121, hy121⟩ : ∃ y_ : List Int, y_ = (t118 ++ [6]) := ⟨_, rfl⟩
       replace H : ((spec_l2KeyLock.f a1).bind fun t124 => (if y121.length + t124.length < 17592186044416 then (some (0, (y121 ++ t124))) else (none))) = some (r1, r2) := by first | (rw [hy121]; with_reducible exact H) | (have H2_ := (Option.bind_some _ _).symm.trans H; rw [hy121]; with_reducible exact H2_) | (have H2_ := (Option.bind_some _ _).symm.trans H; with_reducible exact H2_) | with_reducible exact H | (rw [hy121]; exact H) | exact H
       have Ny121 := am hy121; clear hy121
       obtain ⟨t124, A120, H⟩ := bO H
       replace H : (if y121.length + t124.length < 17592186044416 then (some (0, (y121 ++ t124))) else (none)) = some (r1, r2) := H
       have A12 := am A120; clear A120
       by_cases c13 : y121.length + t124.length < 17592186044416
       · rw [if_pos c13] at H
         have LMc13 := am c13; clear c13
         obtain ⟨y127, hy127⟩ : ∃ y_ : List Int, y_ = (y121 ++ t124) := ⟨_, rfl⟩
         replace H : (some (0, y127)) = some (r1, r2) := by first | (rw [hy127]; with_reducible exact H) | (have H2_ := (Option.bind_some _ _).symm.trans H; rw [hy127]; with_reducible exact H2_) | (have H2_ := (Option.bind_some _ _).symm.trans H; with_reducible exact H2_) | with_reducible exact H | (rw [hy127]; exact H) | exact H
         have Ny127 := am hy127; clear hy127
         simp only [Option.some.injEq, Prod.mk.injEq] at H
         obtain ⟨rfl, rfl⟩ := H
         go_wp2_with (first | ((with_reducible refine gC (f := 147) rfl ?_); refine goesL_ (some 15) rfl rfl Try.func147 (by kernel_rfl) rfl #[.int .i64 a0] rfl pA ?_; (with_reducible refine (spec_l2KeyLock.calls a0 t118 _ A10.out).mono ?_); rintro e w14 ⟨v119, rfl, ho0, hb⟩; refine ⟨_, rfl, ?_⟩; have n_ := t3 (rL ho0 (bs_ pB)) (blk_below (g := gb115) (o := .cells #[.int .i64 0, .slice none 0 0] 157 (0, 0)) (pK BK115) hb) (bz_ pB hb); clear BK115 HB; obtain ⟨HO120, BK115, HB⟩ := n_; (try clear hb); (try clear ho0)) | ((with_reducible refine gB (b := .append) (xs := #[.tmp 15, .tmp 16]) rfl ?_); at_builtin; refine Kd.R_append (Kd.int .i64) (w0 := w) w.heap.size rfl (.tmp 15) (.tmp 16) 32 2 (.int .i64 0) 8 rfl Try.underlying32 info2 rfl (by decide) (by omega) v119 t118 6 [.int .i64 6] (fun _ => True) (fun _ => False) rfl rfl ?aP (fun _ hk => hk.elim) ?aF ?aO ?aB ?aS ?aL ?_; (case aP => exact rfl); (case aB => exact pB); (case aF => exact (fun _ _ => trivial)); (case aO => exact (pR HO120)); (case aS => exact (bs_ pB)); (case aL => have := LMc11.out; omega); intro v122 w15 ho hb hg hat; rw [← Ny121.out] at ho; have n_ := t3 (blk_grown (g := gb115) (o := .cells #[.int .i64 0, .slice none 0 0] 157 (0, 0)) (pK BK115) hg (Kd.R_ne HO120.out BK115.out (by decide))) (hb) (ho); clear BK115 HB HO120; obtain ⟨BK115, HB, HO123⟩ := n_; clear ho hb hg hat) | ((with_reducible refine gC (f := 147) rfl ?_); refine goesL_ (some 19) rfl rfl Try.func147 (by kernel_rfl) rfl #[.int .i64 a1] rfl pA ?_; (with_reducible refine (spec_l2KeyLock.calls a1 t124 _ A12.out).mono ?_); rintro e w16 ⟨v125, rfl, ho0, hb⟩; refine ⟨_, rfl, ?_⟩; have n_ := t4 (rE (pR HO123) (rB ho0) hb) (rL (rW ho0 (Kd.R_lt (pR HO123))) (bs_ pB)) (blk_below (g := gb115) (o := .cells #[.int .i64 0, .slice none 0 0] 157 (0, 0)) (pK BK115) hb) (bz_ pB hb); clear HO123 BK115 HB; obtain ⟨HO123, HO126, BK115, HB⟩ := n_; (try clear hb); (try clear ho0); obtain ⟨Ao18, co18, eo18⟩ := rS HO126.out; subst eo18) | ((with_reducible refine gB (b := .append) (xs := #[.tmp 17, .tmp 19]) rfl ?_); at_builtin; refine Kd.R_append_rows (Kd.int .i64) (w0 := w) w.heap.size rfl (.tmp 17) (.tmp 19) 32 2 (.int .i64 0) 8 rfl Try.underlying32 info2 rfl (by decide) (by omega) v122 y121 t124 _ _ _ (fun k_ => some k_ ≠ (.slice Ao18 t124.length co18 : Value).ownBlock) (fun _ => False) rfl rfl ?aO ?aR (fun _ _ h => h) (fun _ h => h.elim) ?aF ?aB ?aS ?aL ?_; (case aR => exact pC (rr HO126.out).2.2); (case aB => exact pB); (case aF => exact (fun k_ hk => Kd.fresh' (Kd.R_lt (pR HO126)) k_ hk)); (case aO => exact (pT (Kd.R_mono HO123.out (fun _ hk => hk.2)))); (case aS => exact (bs_ pB)); (case aL => have := LMc13.out; omega); intro v128 w17 ho hb hg hat; rw [← Ny127.out] at ho; have n_ := t4 (blk_grown (g := gb115) (o := .cells #[.int .i64 0, .slice none 0 0] 157 (0, 0)) (pK BK115) hg (Kd.R_ne HO123.out BK115.out (by decide))) (Kd.R_after (ok := (fun _ => True)) (pR HO126) hg hat) (hb) (ho); clear BK115 HO126 HB HO123; obtain ⟨BK115, HO126, HB, HO129⟩ := n_; clear ho hb hg hat; obtain ⟨Ao19, co19, eo19⟩ := rS HO129.out; subst eo19; have hcz20_0 : w17.cell? ⟨gb115, 0, none⟩ = some (.int .i64 0) := (blk_cell BK115.out 0).trans rfl; have hcz20_1 : w17.cell? ⟨gb115, 1, none⟩ = some (.slice none 0 0) := (blk_cell BK115.out 1).trans rfl; have hfz20_0 := blk_frozen BK115.out 0; have hfz20_1 := blk_frozen BK115.out 1))
         refine bodyPost_ret (results_cell_row rfl _ _ gb115 157 #[.int .i64 0, .slice Ao19 y127.length co19] (0, 0) _ rfl (by (with_reducible repeat (first | refine blk_drewN ?_ _ | refine blk_drew ?_ | refine blk_alloc ?_ _)); refine blk_put (cs := #[.int .i64 0, .slice none 0 0]) ?_ 1 _ rfl; (with_reducible repeat (first | refine blk_drewN ?_ _ | refine blk_drew ?_ | refine blk_alloc ?_ _)); refine blk_put (cs := #[.int .i64 0, .slice none 0 0]) ?_ 0 _ rfl; (with_reducible repeat (first | refine blk_drewN ?_ _ | refine blk_drew ?_ | refine blk_alloc ?_ _)); exact BK115.out) Try.underlying157 rfl (by kernel_rfl)) rfl ?_
         exact ⟨_, pE, (pT (Kd.R_mono (Kd.R_far (p := ⟨gb115, 1, none⟩) (Kd.R_far (p := ⟨gb115, 0, none⟩) (Kd.R_types HO129.out BK115.out (by decide)) (fun _ hk => hk.2) (.int .i64 0)) (fun _ hk => hk.2) (.slice Ao19 y127.length co19)) (fun _ hk => trivial))), pB⟩
       · rw [if_neg c13] at H
         exact absurd H (by simp)
     · rw [if_neg c11] at H
       exact absurd H (by simp)
def spec_LaterLock.f (a0 : Int) (a1 : Int) : Option (Int × List Int) := (spec_l2Key.f a0).bind fun t131 => (if t131 = true then ((spec_l1In.f a1 0 999).bind fun t132 => (if t132 = true then ((some (([wrap64 (100 + a1), 9] : List Int) : List Int)).bind fun y133 => ((spec_l2KeyLock.f a0).bind fun t136 => (if y133.length + t136.length < 17592186044416 then (some (0, (y133 ++ t136))) else (none)))) else (some (3, ([] : List Int))))) else (some (3, ([] : List Int))))
theorem spec_LaterLock.calls (a0 : Int) (a1 : Int) (r1 : Int) (r2 : List Int) (w : World) (h : spec_LaterLock.f a0 a1 = some (r1, r2)) :
 Calls Try.prog 150 #[.int .i64 a0, .int .i64 a1] w fun e w' => ∃ v1_ : Value, e = .returned (.agg #[.int .i64 r1, v1_]) ∧ Kd.R (Kd.int .i64) 2 w' w.heap.size (fun _ => True) v1_ r2 ∧ Below w.heap.size w w' := by
 have hu157 := Try.underlying157
 have HB := am (Below.refl w.heap.size w)
 have H : ((spec_l2Key.f a0).bind fun t131 => (if t131 = true then ((spec_l1In.f a1 0 999).bind fun t132 => (if t132 = true then ((some (([wrap64 (100 + a1), 9] : List Int) : List Int)).bind fun y133 => ((spec_l2KeyLock.f a0).bind fun t136 => (if y133.length + t136.length < 17592186044416 then (some (0, (y133 ++ t136))) else (none)))) else (some (3, ([] : List Int))))) else (some (3, ([] : List Int))))) = some (r1, r2) := h
 clear h
 obtain ⟨t131, A30, H⟩ := bO H
 replace H : (if t131 = true then ((spec_l1In.f a1 0 999).bind fun t132 => (if t132 = true then ((some (([wrap64 (100 + a1), 9] : List Int) : List Int)).bind fun y133 => ((spec_l2KeyLock.f a0).bind fun t136 => (if y133.length + t136.length < 17592186044416 then (some (0, (y133 ++ t136))) else (none)))) else (some (3, ([] : List Int))))) else (some (3, ([] : List Int)))) = some (r1, r2) := H
 have A3 := am A30; clear A30
 by_cases c4 : t131 = true
 · subst c4
   have H1 : ((spec_l1In.f a1 0 999).bind fun t132 => (if t132 = true then ((some (([wrap64 (100 + a1), 9] : List Int) : List Int)).bind fun y133 => ((spec_l2KeyLock.f a0).bind fun t136 => (if y133.length + t136.length < 17592186044416 then (some (0, (y133 ++ t136))) else (none)))) else (some (3, ([] : List Int))))) = some (r1, r2) := by rw [if_pos rfl] at H; exact H
   clear H; have H := H1; clear H1
   obtain ⟨t132, A50, H⟩ := bO H
   replace H : (if t132 = true then ((some (([wrap64 (100 + a1), 9] : List Int) : List Int)).bind fun y133 => ((spec_l2KeyLock.f a0).bind fun t136 => (if y133.length + t136.length < 17592186044416 then (some (0, (y133 ++ t136))) else (none)))) else (some (3, ([] : List Int)))) = some (r1, r2) := H
   have A5 := am A50; clear A50
   by_cases c6 : t132 = true
   · subst c6
     have H1 : ((some (([wrap64 (100 + a1), 9] : List Int) : List Int)).bind fun y133 => ((spec_l2KeyLock.f a0).bind fun t136 => (if y133.length + t136.length < 17592186044416 then (some (0, (y133 ++ t136))) else (none)))) = some (r1, r2) := by rw [if_pos rfl] at H; exact H
     clear H; have H := H1; clear H1
     obtain ⟨y133, hy133⟩ : ∃ y_ : List Int, y_ = (([wrap64 (100 + a1), 9] : List Int)) := ⟨_, rfl⟩
     replace H : ((spec_l2KeyLock.f a0).bind fun t136 => (if y133.length + t136.length < 17592186044416 then (some (0, (y133 ++ t136))) else (none))) = some (r1, r2) := by first | (rw [hy133]; with_reducible exact H) | (have H2_ := (Option.bind_some _ _).symm.trans H; rw [hy133]; with_reducible exact H2_) | (have H2_ := (Option.bind_some _ _).symm.trans H; with_reducible exact H2_) | with_reducible exact H | (rw [hy133]; exact H) | exact H
     have Ny133 := am hy133; clear hy133
     obtain ⟨t136, A70, H⟩ := bO H
     replace H : (if y133.length + t136.length < 17592186044416 then (some (0, (y133 ++ t136))) else (none)) = some (r1, r2) := H
     have A7 := am A70; clear A70
     by_cases c8 : y133.length + t136.length < 17592186044416
     · rw [if_pos c8] at H
       have LMc8 := am c8; clear c8
       obtain ⟨y139, hy139⟩ : ∃ y_ : List Int, y_ = (y133 ++ t136) := ⟨_, rfl⟩
       replace H : (some (0, y139)) = some (r1, r2) := by first | (rw [hy139]; with_reducible exact H) | (have H2_ := (Option.bind_some _ _).symm.trans H; rw [hy139]; with_reducible exact H2_) | (have H2_ := (Option.bind_some _ _).symm.trans H; with_reducible exact H2_) | with_reducible exact H | (rw [hy139]; exact H) | exact H
       have Ny139 := am hy139; clear hy139
       simp only [Option.some.injEq, Prod.mk.injEq] at H
       obtain ⟨rfl, rfl⟩ := H
       go_enter Try.func150, Try.ntmps150
       go_wp2_with (first | ((with_reducible refine gate_dst (N := 4) rfl ?_); refine box_event ?hg (N := 4) ?hd (cs := #[.int .i64 0, .slice none 0 0]) (t := 157) ?hr ?_; (case hd => rfl); (case hg => rfl); (case hr => first | (go_simp; done) | (go_simp; rfl)); intro gb130 hg w9 hbox hb; have n_ := t4 (bz_ pB hb) (hbox) ((by rw [hg]; exact (bs_ pB) : w.heap.size ≤ gb130)) ((by rw [hg]; exact (bs_ pB) : w.heap.size ≤ gb130)); clear HB; obtain ⟨HB, BK130, GW130, GE130⟩ := n_; clear hb hbox hg) | ((with_reducible refine gC (f := 157) rfl ?_); refine goesL_ (some 6) rfl rfl Try.func157 (by kernel_rfl) rfl #[.int .i64 a0] rfl pA ?_; (with_reducible refine (spec_l2Key.calls a0 true _ A3.out).mono ?_); rintro e w' ⟨rfl, ⟨nd, rfl⟩⟩; refine ⟨_, rfl, ?_⟩; (try (rw [drewN_self w9]; generalize hq_ : World.drewN w9 _ = w9; have n0_ : Aside0 (w9.heap[gb130]? = some (.cells #[.int .i64 0, .slice none 0 0] 157 (0, 0))) := ⟨by rw [← hq_]; exact (pK BK130)⟩; have n1_ : Aside0 (Below w.heap.size w w9) := ⟨by rw [← hq_]; exact pB⟩; clear BK130 HB hq_; have BK130 := n0_; have HB := n1_; clear n0_ n1_))) | (go_at_call 81; (with_reducible refine (spec_l1In.calls a1 0 999 true _ A5.out).mono ?_); rintro e w' ⟨rfl, ⟨nd, rfl⟩⟩; (try (rw [drewN_self w9]; generalize hq_ : World.drewN w9 _ = w9; have n0_ : Aside0 (w9.heap[gb130]? = some (.cells #[.int .i64 0, .slice none 0 0] 157 (0, 0))) := ⟨by rw [← hq_]; exact (pK BK130)⟩; have n1_ : Aside0 (Below w.heap.size w w9) := ⟨by rw [← hq_]; exact pB⟩; clear BK130 HB hq_; have BK130 := n0_; have HB := n1_; clear n0_ n1_))) | ((with_reducible refine gate_dst (N := 16) rfl ?_); refine Kd.R_lit (Kd.int .i64) _ 2 ?hg (N := 16) ?hd (xs := ([wrap64 (100 + a1), 9] : List Int)) (inner := [.int .i64 (wrap64 (100 + a1)), .int .i64 9]) (ok := fun _ => True) (okp := fun _ => True) ?hr ?hp (fun _ hk => hk) trivial (Below.refl _ _) (Nat.le_refl _) (by simp) ?_; (case hd => rfl); (case hg => rfl); (case hr => first | (go_simp; done) | (go_simp; rfl)); (case hp => exact (Reps.one (show Kd.M (Kd.int .i64) _ _ _ (wrap64 (100 + a1)) [.int .i64 (wrap64 (100 + a1))] from rfl) (Reps.one (show Kd.M (Kd.int .i64) _ _ _ 9 [.int .i64 9] from rfl) (Reps.none _ _)))); intro v134 w10 ho11 hb hg_ hnew_; clear hg_ hnew_; (first | rw [← Ny133.out] at ho11 | (simp only [Int.reduceToNat] at ho11; rw [← Ny133.out] at ho11)); have n_ := t3 (rL ho11 (bs_ pB)) (blk_below (g := gb130) (o := .cells #[.int .i64 0, .slice none 0 0] 157 (0, 0)) (pK BK130) hb) (bz_ pB hb); clear BK130 HB; obtain ⟨HO135, BK130, HB⟩ := n_; clear hb ho11) | ((with_reducible refine gC (f := 147) rfl ?_); refine goesL_ (some 18) rfl rfl Try.func147 (by kernel_rfl) rfl #[.int .i64 a0] rfl pA ?_; (with_reducible refine (spec_l2KeyLock.calls a0 t136 _ A7.out).mono ?_); rintro e w12 ⟨v137, rfl, ho0, hb⟩; refine ⟨_, rfl, ?_⟩; have n_ := t4 (rE (pR HO135) (rB ho0) hb) (rL (rW ho0 (Kd.R_lt (pR HO135))) (bs_ pB)) (blk_below (g := gb130) (o := .cells #[.int .i64 0, .slice none 0 0] 157 (0, 0)) (pK BK130) hb) (bz_ pB hb); clear HO135 BK130 HB; obtain ⟨HO135, HO138, BK130, HB⟩ := n_; (try clear hb); (try clear ho0); obtain ⟨Ao14, co14, eo14⟩ := rS HO138.out; subst eo14) | ((with_reducible refine gB (b := .append) (xs := #[.tmp 16, .tmp 18]) rfl ?_); at_builtin; refine Kd.R_append_rows (Kd.int .i64) (w0 := w) w.heap.size rfl (.tmp 16) (.tmp 18) 32 2 (.int .i64 0) 8 rfl Try.underlying32 info2 rfl (by decide) (by omega) v134 y133 t136 _ _ _ (fun k_ => some k_ ≠ (.slice Ao14 t136.length co14 : Value).ownBlock) (fun _ => False) rfl rfl ?aO ?aR (fun _ _ h => h) (fun _ h => h.elim) ?aF ?aB ?aS ?aL ?_; (case aR => exact pC (rr HO138.out).2.2); (case aB => exact pB); (case aF => exact (fun k_ hk => Kd.fresh' (Kd.R_lt (pR HO138)) k_ hk)); (case aO => exact (pT (Kd.R_mono HO135.out (fun _ hk => hk.2)))); (case aS => exact (bs_ pB)); (case aL => have := LMc8.out; omega); intro v140 w13 ho hb hg hat; rw [← Ny139.out] at ho; have n_ := t4 (blk_grown (g := gb130) (o := .cells #[.int .i64 0, .slice none 0 0] 157 (0, 0)) (pK BK130) hg (Kd.R_ne HO135.out BK130.out (by decide))) (Kd.R_after (ok := (fun _ => True)) (pR HO138) hg hat) (hb) (ho); clear BK130 HO138 HB HO135; obtain ⟨BK130, HO138, HB, HO141⟩ := n_; clear ho hb hg hat; obtain ⟨Ao15, co15, eo15⟩ := rS HO141.out; subst eo15; have hcz16_0 : w13.cell? ⟨gb130, 0, none⟩ = some (.int .i64 0) := (blk_cell BK130.out 0).trans rfl; have hcz16_1 : w13.cell? ⟨gb130, 1, none⟩ = some (.slice none 0 0) := (blk_cell BK130.out 1).trans rfl; have hfz16_0 := blk_frozen BK130.out 0; have hfz16_1 := blk_frozen BK130.out 1))
       refine bodyPost_ret (results_cell_row rfl _ _ gb130 157 #[.int .i64 0, .slice Ao15 y139.length co15] (0, 0) _ rfl (by (with_reducible repeat (first | refine blk_drewN ?_ _ | refine blk_drew ?_ | refine blk_alloc ?_ _)); refine blk_put (cs := #[.int .i64 0, .slice none 0 0]) ?_ 1 _ rfl; (with_reducible repeat (first | refine blk_drewN ?_ _ | refine blk_drew ?_ | refine blk_alloc ?_ _)); refine blk_put (cs := #[.int .i64 0, .slice none 0 0]) ?_ 0 _ rfl; (with_reducible repeat (first | refine blk_drewN ?_ _ | refine blk_drew ?_ | refine blk_alloc ?_ _)); exact BK130.out) Try.underlying157 rfl (by kernel_rfl)) rfl ?_
       exact ⟨_, pE, (pT (Kd.R_mono (Kd.R_far (p := ⟨gb130, 1, none⟩) (Kd.R_far (p := ⟨gb130, 0, none⟩) (Kd.R_types HO141.out BK130.out (by decide)) (fun _ hk => hk.2) (.int .i64 0)) (fun _ hk => hk.2) (.slice Ao15 y139.length co15)) (fun _ hk => trivial))), pB⟩
     · rw [if_neg c8] at H
       exact absurd H (by simp)
   · replace c6 := Bool.eq_false_iff.mpr c6
     subst c6
     have H1 : (some (3, ([] : List Int))) = some (r1, r2) := by rw [if_neg (show ¬ (false = true) by decide)] at H; exact H
     clear H; have H := H1; clear H1
     simp only [Option.some.injEq, Prod.mk.injEq] at H
     obtain ⟨rfl, rfl⟩ := H
     go_enter Try.func150, Try.ntmps150
     go_wp2_with (first | ((with_reducible refine gate_dst (N := 4) rfl ?_); refine box_event ?hg (N := 4) ?hd (cs := #[.int .i64 0, .slice none 0 0]) (t := 157) ?hr ?_; (case hd => rfl); (case hg => rfl); (case hr => first | (go_simp; done) | (go_simp; rfl)); intro gb130 hg w17 hbox hb; have n_ := t4 (bz_ pB hb) (hbox) ((by rw [hg]; exact (bs_ pB) : w.heap.size ≤ gb130)) ((by rw [hg]; exact (bs_ pB) : w.heap.size ≤ gb130)); clear HB; obtain ⟨HB, BK130, GW130, GE130⟩ := n_; clear hb hbox hg) | ((with_reducible refine gC (f := 157) rfl ?_); refine goesL_ (some 6) rfl rfl Try.func157 (by kernel_rfl) rfl #[.int .i64 a0] rfl pA ?_; (with_reducible refine (spec_l2Key.calls a0 true _ A3.out).mono ?_); rintro e w' ⟨rfl, ⟨nd, rfl⟩⟩; refine ⟨_, rfl, ?_⟩; (try (rw [drewN_self w17]; generalize hq_ : World.drewN w17 _ = w17; have n0_ : Aside0 (w17.heap[gb130]? = some (.cells #[.int .i64 0, .slice none 0 0] 157 (0, 0))) := ⟨by rw [← hq_]; exact (pK BK130)⟩; have n1_ : Aside0 (Below w.heap.size w w17) := ⟨by rw [← hq_]; exact pB⟩; clear BK130 HB hq_; have BK130 := n0_; have HB := n1_; clear n0_ n1_))) | (go_at_call 81; (with_reducible refine (spec_l1In.calls a1 0 999 false _ A5.out).mono ?_); rintro e w' ⟨rfl, ⟨nd, rfl⟩⟩; (try (rw [drewN_self w17]; generalize hq_ : World.drewN w17 _ = w17; have n0_ : Aside0 (w17.heap[gb130]? = some (.cells #[.int .i64 0, .slice none 0 0] 157 (0, 0))) := ⟨by rw [← hq_]; exact (pK BK130)⟩; have n1_ : Aside0 (Below w.heap.size w w17) := ⟨by rw [← hq_]; exact pB⟩; clear BK130 HB hq_; have BK130 := n0_; have HB := n1_; clear n0_ n1_)); have hcz18_0 : w17.cell? ⟨gb130, 0, none⟩ = some (.int .i64 0) := (blk_cell BK130.out 0).trans rfl; have hcz18_1 : w17.cell? ⟨gb130, 1, none⟩ = some (.slice none 0 0) := (blk_cell BK130.out 1).trans rfl; have hfz18_0 := blk_frozen BK130.out 0; have hfz18_1 := blk_frozen BK130.out 1))
     refine bodyPost_ret (results_cell_row rfl _ _ gb130 157 #[.int .i64 3, .slice none 0 0] (0, 0) _ rfl zd34 Try.underlying157 rfl (by kernel_rfl)) rfl ?_
     exact ⟨_, pE, by first | exact Kd.R_nil _ _ _ _ _ | exact Kd.N_nil _ _ _ _ _ | exact Kd.V_nil _ _ _ _ _ | exact Kd.Q_nil _ _ _ _ _ | exact Kd.S_nil _ _ _ _ _, pB⟩
 · replace c4 := Bool.eq_false_iff.mpr c4
   subst c4
   have H1 : (some (3, ([] : List Int))) = some (r1, r2) := by rw [if_neg (show ¬ (false = true) by decide)] at H; exact H
   clear H; have H := H1; clear H1
   simp only [Option.some.injEq, Prod.mk.injEq] at H
   obtain ⟨rfl, rfl⟩ := H
   go_enter Try.func150, Try.ntmps150
   go_wp2_with (first | ((with_reducible refine gate_dst (N := 4) rfl ?_); refine box_event ?hg (N := 4) ?hd (cs := #[.int .i64 0, .slice none 0 0]) (t := 157) ?hr ?_; (case hd => rfl); (case hg => rfl); (case hr => first | (go_simp; done) | (go_simp; rfl)); intro gb130 hg w19 hbox hb; have n_ := t4 (bz_ pB hb) (hbox) ((by rw [hg]; exact (bs_ pB) : w.heap.size ≤ gb130)) ((by rw [hg]; exact (bs_ pB) : w.heap.size ≤ gb130)); clear HB; obtain ⟨HB, BK130, GW130, GE130⟩ := n_; clear hb hbox hg) | ((with_reducible refine gC (f := 157) rfl ?_); refine goesL_ (some 6) rfl rfl Try.func157 (by kernel_rfl) rfl #[.int .i64 a0] rfl pA ?_; (with_reducible refine (spec_l2Key.calls a0 false _ A3.out).mono ?_); rintro e w' ⟨rfl, ⟨nd, rfl⟩⟩; refine ⟨_, rfl, ?_⟩; (try (rw [drewN_self w19]; generalize hq_ : World.drewN w19 _ = w19; have n0_ : Aside0 (w19.heap[gb130]? = some (.cells #[.int .i64 0, .slice none 0 0] 157 (0, 0))) := ⟨by rw [← hq_]; exact (pK BK130)⟩; have n1_ : Aside0 (Below w.heap.size w w19) := ⟨by rw [← hq_]; exact pB⟩; clear BK130 HB hq_; have BK130 := n0_; have HB := n1_; clear n0_ n1_)); have hcz20_0 : w19.cell? ⟨gb130, 0, none⟩ = some (.int .i64 0) := (blk_cell BK130.out 0).trans rfl; have hcz20_1 : w19.cell? ⟨gb130, 1, none⟩ = some (.slice none 0 0) := (blk_cell BK130.out 1).trans rfl; have hfz20_0 := blk_frozen BK130.out 0; have hfz20_1 := blk_frozen BK130.out 1))
   refine bodyPost_ret (results_cell_row rfl _ _ gb130 157 #[.int .i64 3, .slice none 0 0] (0, 0) _ rfl zd34 Try.underlying157 rfl (by kernel_rfl)) rfl ?_
   exact ⟨_, pE, by first | exact Kd.R_nil _ _ _ _ _ | exact Kd.N_nil _ _ _ _ _ | exact Kd.V_nil _ _ _ _ _ | exact Kd.Q_nil _ _ _ _ _ | exact Kd.S_nil _ _ _ _ _, pB⟩
mutual
def spec_l2Draw.j0 : Nat → Int → Bool → List Int → Int → Option (List Int × Int)
 | 0, _, _, _, _ => none
 | k + 1, x6, x7, x1000, x1001 => if x7 = true then ((spec_l2DrawKey.f x1000 x1001).bind fun bt144 => ((spec_l2KeyLock.f bt144.1).bind fun t146 => (some (t146, bt144.2)))) else (if x6 = 2 then ((spec_l2DrawKey.f x1000 x1001).bind fun bt149 => ((spec_l2DrawKey.f x1000 bt149.2).bind fun bt151 => ((spec_PairLock.f k bt149.1 bt151.1).bind fun bt153 => (some (bt153.2, bt151.2))))) else (if x6 = 3 then ((spec_l2DrawKey.f x1000 x1001).bind fun bt157 => ((spec_l1Next.f x1000 bt157.2 6).bind fun bt159 => ((spec_LaterLock.f bt157.1 bt159.1).bind fun bt161 => (some (bt161.2, bt159.2))))) else ((spec_l1Next.f x1000 x1001 8).bind fun bt168 => (spec_l2Draw.l0 k (([] : List Int)) bt168.1 x1000 bt168.2))))
def spec_l2Draw.l0 : Nat → List Int → Int → List Int → Int → Option (List Int × Int)
 | 0, _, _, _, _ => none
 | k + 1, x3, x4, x1000, x1001 => if x4 > 0 then ((spec_l1Pick.f x1000 x1001 (([1, 2, 3, 4, 5, 6, 7, 8, 9, 100, 101, 103, 1099] : List Int))).bind fun bt173 => (if x3.length < 17592186044416 then (spec_l2Draw.l0 k (x3 ++ [bt173.1]) (wrap64 (x4 - 1)) x1000 bt173.2) else (none))) else (some (x3, x1001))
end
def spec_l2Draw.f (k : Nat) (s0_0 : List Int) (s0_1 : Int) : Option (List Int × Int) := (spec_l1Next.f s0_0 s0_1 5).bind fun bt142 => (if bt142.1 = 0 then (spec_l2Draw.j0 k bt142.1 (bt142.1 == 0) s0_0 bt142.2) else (spec_l2Draw.j0 k bt142.1 (bt142.1 == 1) s0_0 bt142.2))
theorem spec_l2Draw.mono_l : ∀ k, (∀ y0 y1 y2 y3, LeO (spec_l2Draw.j0 k y0 y1 y2 y3) (spec_l2Draw.j0 (k + 1) y0 y1 y2 y3)) ∧ (∀ y0 y1 y2 y3, LeO (spec_l2Draw.l0 k y0 y1 y2 y3) (spec_l2Draw.l0 (k + 1) y0 y1 y2 y3))
 | 0 => ⟨fun _ _ _ _ r h => by simp [spec_l2Draw.j0] at h, fun _ _ _ _ r h => by simp [spec_l2Draw.l0] at h⟩
 | k + 1 => by
  obtain ⟨ih0, ih1⟩ := spec_l2Draw.mono_l k
  refine ⟨?_, ?_⟩
  · intro y0 y1 y2 y3
    unfold spec_l2Draw.j0
    repeat' with_reducible first | exact ih0 _ _ _ _ | exact ih1 _ _ _ _ | exact spec_PairLock.mono _ _ _ | exact LeO.refl _ | exact LeO.none _ | refine LeO.ite ?_ ?_ | refine LeO.bind ?_ (fun _ => ?_)
  · intro y0 y1 y2 y3
    unfold spec_l2Draw.l0
    repeat' with_reducible first | exact ih0 _ _ _ _ | exact ih1 _ _ _ _ | exact spec_PairLock.mono _ _ _ | exact LeO.refl _ | exact LeO.none _ | refine LeO.ite ?_ ?_ | refine LeO.bind ?_ (fun _ => ?_)
theorem spec_l2Draw.mono : ∀ a0 a1 k, LeO (spec_l2Draw.f k a0 a1) (spec_l2Draw.f (k + 1) a0 a1) := by
 intro a0 a1 k
 obtain ⟨ih0, ih1⟩ := spec_l2Draw.mono_l k
 unfold spec_l2Draw.f
 repeat' with_reducible first | exact ih0 _ _ _ _ | exact ih1 _ _ _ _ | exact spec_PairLock.mono _ _ _ | exact LeO.refl _ | exact LeO.none _ | refine LeO.ite ?_ ?_ | refine LeO.bind ?_ (fun _ => ?_)
theorem spec_l2Draw.calls (k : Nat) (g : Nat) (s0_0 : List Int) (s0_1 : Int) (r1 : List Int) (r2 : Int) (w0 w : World) (hI : IsS129 w0 w g s0_0 s0_1) (hB : Below w0.heap.size w0 w) (h : spec_l2Draw.f k s0_0 s0_1 = some (r1, r2)) :
 Calls Try.prog 128 #[.pointer (some ⟨g, 0, none⟩)] w fun e w' => ∃ v0_ : Value, e = .returned (v0_) ∧ Kd.R (Kd.int .i64) 2 w' w.heap.size (fun _ => True) v0_ r1 ∧ IsS129 w0 w' g s0_0 r2 ∧ Below w0.heap.size w0 w' ∧ KeepBut w w' g none := by
 have hfd157_1 : ∀ (c0 c1 : Value) (w : World), (Instr.field 157 (.agg #[c0, c1]) 1).run Try.prog w = .ok c1 w := by intro c0 c1 w; kernel_rfl
 have HI0 := am hI
 have HK := am (KeepBut.refl w g none)
 have HL := am hB.size
 clear hI
 have HW0 := am hB.size
 have HB := am hB; clear hB
 have H : ((spec_l1Next.f s0_0 s0_1 5).bind fun bt142 => (if bt142.1 = 0 then (spec_l2Draw.j0 k bt142.1 (bt142.1 == 0) s0_0 bt142.2) else (spec_l2Draw.j0 k bt142.1 (bt142.1 == 1) s0_0 bt142.2))) = some (r1, r2) := h
 clear h
 obtain ⟨⟨t142, t143⟩, A20, H⟩ := bO H
 replace H : (if t142 = 0 then (spec_l2Draw.j0 k t142 (t142 == 0) s0_0 t143) else (spec_l2Draw.j0 k t142 (t142 == 1) s0_0 t143)) = some (r1, r2) := H
 have A2 := am A20; clear A20; have HC3 := am H; clear H
 go_enter Try.func128, Try.ntmps128
 go_upto_if 7 with (first | ((with_reducible refine gC (f := 77) rfl ?_); refine goesL_ (some 6) rfl rfl Try.func77 (by kernel_rfl) rfl #[.pointer (some ⟨g, 0, none⟩), .int .i64 5] rfl pA ?_; (with_reducible refine (spec_l1Next.calls g s0_0 s0_1 5 t142 t143 w0 _ ?side1 ?side2 A2.out).mono ?_); (case side1 => exact zd7); (case side2 => exact zd6); rintro e w4 ⟨rfl, hi, hb, hk⟩; refine ⟨_, rfl, ?_⟩; have n_ := t3 (KeepBut.trans zd4 hk (.inl rfl)) (hb) (hi); clear HK HB HI0; obtain ⟨HK, HB, HI0⟩ := n_; (try clear hb); (try clear hk); (try clear hi)))
 (try simp only [Act.put, List.setIfInBounds_toArray, List.set_cons_zero, List.set_cons_succ])
 go_cut [7] (fun v7 wc => ∃ (kq : Nat) (x7_2 : Bool), v7 = .bool x7_2 ∧ Aside0 (spec_l2Draw.j0 kq t142 x7_2 s0_0 t143 = some (r1, r2)) ∧ Aside0 (kq ≤ k) ∧ Aside0 (IsS129 w0 wc g s0_0 t143) ∧ Aside0 (KeepBut w wc g none) ∧ Aside0 (Below w0.heap.size w0 wc))
 case first =>
  have H := HC3.out
  clear HC3
  by_cases c5 : t142 = 0
  · rw [if_pos c5] at H
    have c5b0 : (t142 == 0) = true := beq_iff_eq.mpr c5
    have c5b1 : (t142 != 0) = false := bne_eq_false_iff_eq.mpr c5
    clear c5
    (first | rw [c5b0] | (simp only [i64_w, i32_w]; rw [c5b0]) | skip)
    have H' := am H
    clear H
    go_wp2
    go_meet
    case rel => exact ⟨_, ((t142 == 0)), pF, H', ⟨by first | omega | exact Nat.le_refl _⟩, ⟨by repeat (first | (with_reducible first | exact HI0.out | apply IsS129.alloc | apply IsS129.drewN | apply IsS129.drew | apply IsS129.set_1) | exact HI0.out)⟩, ⟨by repeat (first | (with_reducible first | exact HK.out | apply KeepBut.set_ | apply keep_drewN | apply keep_drew | apply keep_alloc) | exact HK.out)⟩, ⟨by repeat (first | (with_reducible first | exact HB.out | apply below_alloc | apply pw_below_drewN | apply below_drew1 | refine below_set ?_ (IsS129.ge HI0.out)) | exact HB.out)⟩⟩
  · rw [if_neg c5] at H
    have c5b0 : (t142 == 0) = false := beq_eq_false_iff_ne.mpr c5
    have c5b1 : (t142 != 0) = true := bne_iff_ne.mpr c5
    (first | rw [c5b0] | (simp only [i64_w, i32_w]; rw [c5b0]) | skip)
    have H' := am H
    clear H
    go_wp2
    go_meet
    case rel => exact ⟨_, ((t142 == 1)), pF, H', ⟨by first | omega | exact Nat.le_refl _⟩, ⟨by repeat (first | (with_reducible first | exact HI0.out | apply IsS129.alloc | apply IsS129.drewN | apply IsS129.drew | apply IsS129.set_1) | exact HI0.out)⟩, ⟨by repeat (first | (with_reducible first | exact HK.out | apply KeepBut.set_ | apply keep_drewN | apply keep_drew | apply keep_alloc) | exact HK.out)⟩, ⟨by repeat (first | (with_reducible first | exact HB.out | apply below_alloc | apply pw_below_drewN | apply below_drew1 | refine below_set ?_ (IsS129.ge HI0.out)) | exact HB.out)⟩⟩
 case rest =>
  clear HC3; (try clear c1)
  obtain ⟨kq, x7_2, rfl, HA, HJ2, HI0, HK, HB⟩ := hcut
  cases kq with
  | zero => exact absurd HA.out (by simp [spec_l2Draw.j0])
  | succ kj2 =>
   have H := HA.out
   clear HA
   simp only [spec_l2Draw.j0] at H
   by_cases c6 : x7_2 = true
   · subst c6
     have H1 : ((spec_l2DrawKey.f s0_0 t143).bind fun bt144 => ((spec_l2KeyLock.f bt144.1).bind fun t146 => (some (t146, bt144.2)))) = some (r1, r2) := by rw [if_pos rfl] at H; exact H
     clear H; have H := H1; clear H1
     obtain ⟨⟨t144, t145⟩, A70, H⟩ := bO H
     replace H : ((spec_l2KeyLock.f t144).bind fun t146 => (some (t146, t145))) = some (r1, r2) := H
     have A7 := am A70; clear A70
     obtain ⟨t146, A80, H⟩ := bO H
     replace H : (some (t146, t145)) = some (r1, r2) := H
     have A8 := am A80; clear A80
     simp only [Option.some.injEq, Prod.mk.injEq] at H
     obtain ⟨rfl, rfl⟩ := H
     go_wp2_with (first | ((with_reducible refine gC (f := 148) rfl ?_); refine goesL_ (some 11) rfl rfl Try.func148 (by kernel_rfl) rfl #[.pointer (some ⟨g, 0, none⟩)] rfl pA ?_; (with_reducible refine (spec_l2DrawKey.calls g s0_0 t143 t144 t145 w0 _ ?side1 ?side2 A7.out).mono ?_); (case side1 => exact zd7); (case side2 => exact zd6); rintro e w9 ⟨rfl, hi, hb, hk⟩; refine ⟨_, rfl, ?_⟩; have n_ := t3 (KeepBut.trans zd4 hk (.inl rfl)) (hb) (hi); clear HK HB HI0; obtain ⟨HK, HB, HI0⟩ := n_; (try clear hb); (try clear hk); (try clear hi)) | ((with_reducible refine gC (f := 147) rfl ?_); refine goesL_ (some 12) rfl rfl Try.func147 (by kernel_rfl) rfl #[.int .i64 t144] rfl pA ?_; (with_reducible refine (spec_l2KeyLock.calls t144 t146 _ A8.out).mono ?_); rintro e w10 ⟨v147, rfl, ho0, hb⟩; refine ⟨_, rfl, ?_⟩; have n_ := t4 (rL ho0 (keep_size (w := w) (g := g) (row := none) zd4)) (IsS129.below zd7 hb) (KeepBut.trans zd4 (KeepBut.of_below hb g none) (.inl rfl)) (bz_ zd6 hb); clear HI0 HK HB; obtain ⟨HO148, HI0, HK, HB⟩ := n_; (try clear hb); (try clear hk); (try clear hi); (try clear ho0)))
     go_ret
     exact ⟨_, pE, (pR HO148), zd7, zd6, zd4⟩
   · replace c6 := Bool.eq_false_iff.mpr c6
     subst c6
     have H1 : (if t142 = 2 then ((spec_l2DrawKey.f s0_0 t143).bind fun bt149 => ((spec_l2DrawKey.f s0_0 bt149.2).bind fun bt151 => ((spec_PairLock.f kj2 bt149.1 bt151.1).bind fun bt153 => (some (bt153.2, bt151.2))))) else (if t142 = 3 then ((spec_l2DrawKey.f s0_0 t143).bind fun bt157 => ((spec_l1Next.f s0_0 bt157.2 6).bind fun bt159 => ((spec_LaterLock.f bt157.1 bt159.1).bind fun bt161 => (some (bt161.2, bt159.2))))) else ((spec_l1Next.f s0_0 t143 8).bind fun bt168 => (spec_l2Draw.l0 kj2 (([] : List Int)) bt168.1 s0_0 bt168.2)))) = some (r1, r2) := by rw [if_neg (show ¬ (false = true) by decide)] at H; exact H
     clear H; have H := H1; clear H1
     by_cases c11 : t142 = 2
     · rw [if_pos c11] at H
       have c11b0 : (t142 == 2) = true := beq_iff_eq.mpr c11
       have c11b1 : (t142 != 2) = false := bne_eq_false_iff_eq.mpr c11
       clear c11
       obtain ⟨⟨t149, t150⟩, A120, H⟩ := bO H
       replace H : ((spec_l2DrawKey.f s0_0 t150).bind fun bt151 => ((spec_PairLock.f kj2 t149 bt151.1).bind fun bt153 => (some (bt153.2, bt151.2)))) = some (r1, r2) := H
       have A12 := am A120; clear A120
       obtain ⟨⟨t151, t152⟩, A130, H⟩ := bO H
       replace H : ((spec_PairLock.f kj2 t149 t151).bind fun bt153 => (some (bt153.2, t152))) = some (r1, r2) := H
       have A13 := am A130; clear A130
       obtain ⟨⟨t153, t154⟩, A140, H⟩ := bO H
       replace H : (some (t154, t152)) = some (r1, r2) := H
       have A14 := am A140; clear A140
       simp only [Option.some.injEq, Prod.mk.injEq] at H
       obtain ⟨rfl, rfl⟩ := H
       go_wp2_with (first | ((with_reducible refine gC (f := 148) rfl ?_); refine goesL_ (some 16) rfl rfl Try.func148 (by kernel_rfl) rfl #[.pointer (some ⟨g, 0, none⟩)] rfl pA ?_; (with_reducible refine (spec_l2DrawKey.calls g s0_0 t143 t149 t150 w0 _ ?side1 ?side2 A12.out).mono ?_); (case side1 => exact zd7); (case side2 => exact zd6); rintro e w15 ⟨rfl, hi, hb, hk⟩; refine ⟨_, rfl, ?_⟩; have n_ := t3 (KeepBut.trans zd4 hk (.inl rfl)) (hb) (hi); clear HK HB HI0; obtain ⟨HK, HB, HI0⟩ := n_; (try clear hb); (try clear hk); (try clear hi)) | ((with_reducible refine gC (f := 148) rfl ?_); refine goesL_ (some 18) rfl rfl Try.func148 (by kernel_rfl) rfl #[.pointer (some ⟨g, 0, none⟩)] rfl pA ?_; (with_reducible refine (spec_l2DrawKey.calls g s0_0 t150 t151 t152 w0 _ ?side1 ?side2 A13.out).mono ?_); (case side1 => exact zd7); (case side2 => exact zd6); rintro e w16 ⟨rfl, hi, hb, hk⟩; refine ⟨_, rfl, ?_⟩; have n_ := t3 (KeepBut.trans zd4 hk (.inl rfl)) (hb) (hi); clear HK HB HI0; obtain ⟨HK, HB, HI0⟩ := n_; (try clear hb); (try clear hk); (try clear hi)) | ((with_reducible refine gC (f := 149) rfl ?_); refine goesL_ (some 19) rfl rfl Try.func149 (by kernel_rfl) rfl #[.int .i64 t149, .int .i64 t151] rfl pA ?_; (with_reducible refine (spec_PairLock.calls kj2 t149 t151 t153 t154 _ A14.out).mono ?_); rintro e w17 ⟨v155, rfl, ho0, hb⟩; refine ⟨_, rfl, ?_⟩; have n_ := t4 (rL ho0 (keep_size (w := w) (g := g) (row := none) zd4)) (IsS129.below zd7 hb) (KeepBut.trans zd4 (KeepBut.of_below hb g none) (.inl rfl)) (bz_ zd6 hb); clear HI0 HK HB; obtain ⟨HO156, HI0, HK, HB⟩ := n_; (try clear hb); (try clear hk); (try clear hi); (try clear ho0)))
       go_ret
       exact ⟨_, pE, (pR HO156), zd7, zd6, zd4⟩
     · rw [if_neg c11] at H
       have c11b0 : (t142 == 2) = false := beq_eq_false_iff_ne.mpr c11
       have c11b1 : (t142 != 2) = true := bne_iff_ne.mpr c11
       by_cases c18 : t142 = 3
       · rw [if_pos c18] at H
         have c18b0 : (t142 == 3) = true := beq_iff_eq.mpr c18
         have c18b1 : (t142 != 3) = false := bne_eq_false_iff_eq.mpr c18
         clear c18
         obtain ⟨⟨t157, t158⟩, A190, H⟩ := bO H
         replace H : ((spec_l1Next.f s0_0 t158 6).bind fun bt159 => ((spec_LaterLock.f t157 bt159.1).bind fun bt161 => (some (bt161.2, bt159.2)))) = some (r1, r2) := H
         have A19 := am A190; clear A190
         obtain ⟨⟨t159, t160⟩, A200, H⟩ := bO H
         replace H : ((spec_LaterLock.f t157 t159).bind fun bt161 => (some (bt161.2, t160))) = some (r1, r2) := H
         have A20 := am A200; clear A200
         obtain ⟨⟨t161, t162⟩, A210, H⟩ := bO H
         replace H : (some (t162, t160)) = some (r1, r2) := H
         have A21 := am A210; clear A210
         simp only [Option.some.injEq, Prod.mk.injEq] at H
         obtain ⟨rfl, rfl⟩ := H
         go_wp2_with (first | ((with_reducible refine gC (f := 148) rfl ?_); refine goesL_ (some 24) rfl rfl Try.func148 (by kernel_rfl) rfl #[.pointer (some ⟨g, 0, none⟩)] rfl pA ?_; (with_reducible refine (spec_l2DrawKey.calls g s0_0 t143 t157 t158 w0 _ ?side1 ?side2 A19.out).mono ?_); (case side1 => exact zd7); (case side2 => exact zd6); rintro e w22 ⟨rfl, hi, hb, hk⟩; refine ⟨_, rfl, ?_⟩; have n_ := t3 (KeepBut.trans zd4 hk (.inl rfl)) (hb) (hi); clear HK HB HI0; obtain ⟨HK, HB, HI0⟩ := n_; (try clear hb); (try clear hk); (try clear hi)) | ((with_reducible refine gC (f := 77) rfl ?_); refine goesL_ (some 26) rfl rfl Try.func77 (by kernel_rfl) rfl #[.pointer (some ⟨g, 0, none⟩), .int .i64 6] rfl pA ?_; (with_reducible refine (spec_l1Next.calls g s0_0 t158 6 t159 t160 w0 _ ?side1 ?side2 A20.out).mono ?_); (case side1 => exact zd7); (case side2 => exact zd6); rintro e w23 ⟨rfl, hi, hb, hk⟩; refine ⟨_, rfl, ?_⟩; have n_ := t3 (KeepBut.trans zd4 hk (.inl rfl)) (hb) (hi); clear HK HB HI0; obtain ⟨HK, HB, HI0⟩ := n_; (try clear hb); (try clear hk); (try clear hi)) | ((with_reducible refine gC (f := 150) rfl ?_); refine goesL_ (some 27) rfl rfl Try.func150 (by kernel_rfl) rfl #[.int .i64 t157, .int .i64 t159] rfl pA ?_; (with_reducible refine (spec_LaterLock.calls t157 t159 t161 t162 _ A21.out).mono ?_); rintro e w24 ⟨v163, rfl, ho0, hb⟩; refine ⟨_, rfl, ?_⟩; have n_ := t4 (rL ho0 (keep_size (w := w) (g := g) (row := none) zd4)) (IsS129.below zd7 hb) (KeepBut.trans zd4 (KeepBut.of_below hb g none) (.inl rfl)) (bz_ zd6 hb); clear HI0 HK HB; obtain ⟨HO164, HI0, HK, HB⟩ := n_; (try clear hb); (try clear hk); (try clear hi); (try clear ho0)))
         go_ret
         exact ⟨_, pE, (pR HO164), zd7, zd6, zd4⟩
       · rw [if_neg c18] at H
         have c18b0 : (t142 == 3) = false := beq_eq_false_iff_ne.mpr c18
         have c18b1 : (t142 != 3) = true := bne_iff_ne.mpr c18
         obtain ⟨y165, hy165⟩ : ∃ y_ : List Int, y_ = (([] : List Int)) := ⟨_, rfl⟩
         replace H : ((spec_l1Next.f s0_0 t143 8).bind fun bt168 => (spec_l2Draw.l0 kj2 y165 bt168.1 s0_0 bt168.2)) = some (r1, r2) := by first | (rw [hy165]; with_reducible exact H) | (have H2_ := (Option.bind_some _ _).symm.trans H; rw [hy165]; with_reducible exact H2_) | (have H2_ := (Option.bind_some _ _).symm.trans H; with_reducible exact H2_) | with_reducible exact H | (rw [hy165]; exact H) | exact H
         have Ny165 := am hy165; clear hy165
         obtain ⟨⟨t168, t169⟩, A250, H⟩ := bO H
         replace H : (spec_l2Draw.l0 kj2 y165 t168 s0_0 t169) = some (r1, r2) := H
         have A25 := am A250; clear A250
         have H' := am H
         clear H
         go_wp2_with (first | ((with_reducible refine gate_dst (N := 29) rfl ?_); refine Kd.R_lit (Kd.int .i64) _ 2 ?hg (N := 29) ?hd (xs := ([] : List Int)) (inner := []) (ok := fun _ => True) (okp := fun _ => True) ?hr ?hp (fun _ hk => hk) trivial (Below.refl _ _) (Nat.le_refl _) (by simp) ?_; (case hd => rfl); (case hg => rfl); (case hr => first | (go_simp; done) | (go_simp; rfl)); (case hp => exact (Reps.none _ _)); intro v166 w26 ho27 hb hg_ hnew_; clear hg_ hnew_; (first | rw [← Ny165.out] at ho27 | (simp only [Int.reduceToNat] at ho27; rw [← Ny165.out] at ho27)); have n_ := t4 (rL ho27 (keep_size (w := w) (g := g) (row := none) zd4)) (IsS129.below zd7 hb) (KeepBut.trans zd4 (KeepBut.of_below hb g none) (.inl rfl)) (bz_ zd6 hb); clear HI0 HK HB; obtain ⟨HO167, HI0, HK, HB⟩ := n_; clear hb ho27) | ((with_reducible refine gC (f := 77) rfl ?_); refine goesL_ (some 31) rfl rfl Try.func77 (by kernel_rfl) rfl #[.pointer (some ⟨g, 0, none⟩), .int .i64 8] rfl pA ?_; (with_reducible refine (spec_l1Next.calls g s0_0 t143 8 t168 t169 w0 _ ?side1 ?side2 A25.out).mono ?_); (case side1 => exact zd7); (case side2 => exact zd6); rintro e w28 ⟨rfl, hi, hb, hk⟩; refine ⟨_, rfl, ?_⟩; have n_ := t4 (Kd.R_mono (Kd.R_keep (IsS129.apart (show IsS129 w0 _ g s0_0 t143 from by repeat (first | (with_reducible first | exact HI0.out | apply IsS129.alloc | apply IsS129.drewN | apply IsS129.drew | apply IsS129.set_1) | exact HI0.out)) (pR HO167) (by decide)) hk (fun _ h => h.2)) (fun _ h => h.1)) (KeepBut.trans zd4 hk (.inl rfl)) (hb) (hi); clear HO167 HK HB HI0; obtain ⟨HO167, HK, HB, HI0⟩ := n_; (try clear hb); (try clear hk); (try clear hi)))
         go_loopg [3, 4] kj2 (fun kq v3 v4 w' => ∃ (x3_2 : List Int) (x4_2 : Int) (x1001_2 : Int), v4 = .int .i64 x4_2 ∧ Aside0 (spec_l2Draw.l0 kq x3_2 x4_2 s0_0 x1001_2 = some (r1, r2)) ∧ Aside0 (kq ≤ kj2) ∧ Aside0 (Kd.R (Kd.int .i64) 2 w' w.heap.size (fun _ => True) v3 x3_2) ∧ Aside0 (IsS129 w0 w' g s0_0 x1001_2) ∧ Aside0 (KeepBut w w' g none) ∧ Aside0 (Below w0.heap.size w0 w'))
         case atStart => exact ⟨(y165), (t168), (t169), pF, H', ⟨Nat.le_refl _⟩, ⟨(pR HO167)⟩, ⟨by repeat (first | (with_reducible first | exact HI0.out | apply IsS129.alloc | apply IsS129.drewN | apply IsS129.drew | apply IsS129.set_1) | exact HI0.out)⟩, ⟨by repeat (first | (with_reducible first | exact HK.out | apply KeepBut.set_ | apply keep_drewN | apply keep_drew | apply keep_alloc) | exact HK.out)⟩, ⟨by repeat (first | (with_reducible first | exact HB.out | apply below_alloc | apply pw_below_drewN | apply below_drew1 | refine below_set ?_ (IsS129.ge HI0.out)) | exact HB.out)⟩⟩
         case round =>
          clear H'
          (try clear c1); (try clear c6); (try clear c11); (try clear c11b0); (try clear c11b1); (try clear c18); (try clear c18b0); (try clear c18b1)
          obtain ⟨x3_2, x4_2, x1001_2, rfl, HA, HK2, HO_3, HI0, HK, HB⟩ := hrel
          cases gk with
          | zero => exact absurd HA.out (by simp [spec_l2Draw.l0])
          | succ k2 =>
           have H := HA.out
           clear HA
           simp only [spec_l2Draw.l0] at H
           by_cases c29 : x4_2 > 0
           · rw [if_pos c29] at H
             have c29b0 : decide (0 < x4_2) = true := dt c29
             clear c29
             obtain ⟨y170, hy170⟩ : ∃ y_ : List Int, y_ = (([1, 2, 3, 4, 5, 6, 7, 8, 9, 100, 101, 103, 1099] : List Int)) := ⟨_, rfl⟩
             replace H : ((spec_l1Pick.f s0_0 x1001_2 y170).bind fun bt173 => (if x3_2.length < 17592186044416 then (spec_l2Draw.l0 k2 (x3_2 ++ [bt173.1]) (wrap64 (x4_2 - 1)) s0_0 bt173.2) else (none))) = some (r1, r2) := by first | (rw [hy170]; with_reducible exact H) | (have H2_ := (Option.bind_some _ _).symm.trans H; rw [hy170]; with_reducible exact H2_) | (have H2_ := (Option.bind_some _ _).symm.trans H; with_reducible exact H2_) | with_reducible exact H | (rw [hy170]; exact H) | exact H
             have Ny170 := am hy170; clear hy170
             obtain ⟨⟨t173, t174⟩, A300, H⟩ := bO H
             replace H : (if x3_2.length < 17592186044416 then (spec_l2Draw.l0 k2 (x3_2 ++ [t173]) (wrap64 (x4_2 - 1)) s0_0 t174) else (none)) = some (r1, r2) := H
             have A30 := am A300; clear A300
             by_cases c31 : x3_2.length < 17592186044416
             · rw [if_pos c31] at H
               have LMc31 := am c31; clear c31
               obtain ⟨y175, hy175⟩ : ∃ y_ : List Int, y_ = (x3_2 ++ [t173]) := ⟨_, rfl⟩
               replace H : (spec_l2Draw.l0 k2 y175 (wrap64 (x4_2 - 1)) s0_0 t174) = some (r1, r2) := by first | (rw [hy175]; with_reducible exact H) | (have H2_ := (Option.bind_some _ _).symm.trans H; rw [hy175]; with_reducible exact H2_) | (have H2_ := (Option.bind_some _ _).symm.trans H; with_reducible exact H2_) | with_reducible exact H | (rw [hy175]; exact H) | exact H
               have Ny175 := am hy175; clear hy175
               have H' := am H
               clear H
               go_wp2_with (first | ((with_reducible refine gate_dst (N := 38) rfl ?_); refine Kd.R_lit (Kd.int .i64) _ 2 ?hg (N := 38) ?hd (xs := ([1, 2, 3, 4, 5, 6, 7, 8, 9, 100, 101, 103, 1099] : List Int)) (inner := [.int .i64 1, .int .i64 2, .int .i64 3, .int .i64 4, .int .i64 5, .int .i64 6, .int .i64 7, .int .i64 8, .int .i64 9, .int .i64 100, .int .i64 101, .int .i64 103, .int .i64 1099]) (ok := fun _ => True) (okp := fun _ => True) ?hr ?hp (fun _ hk => hk) trivial (Below.refl _ _) (Nat.le_refl _) (by simp) ?_; (case hd => rfl); (case hg => rfl); (case hr => first | (go_simp; done) | (go_simp; rfl)); (case hp => exact (Reps.one (show Kd.M (Kd.int .i64) _ _ _ 1 [.int .i64 1] from rfl) (Reps.one (show Kd.M (Kd.int .i64) _ _ _ 2 [.int .i64 2] from rfl) (Reps.one (show Kd.M (Kd.int .i64) _ _ _ 3 [.int .i64 3] from rfl) (Reps.one (show Kd.M (Kd.int .i64) _ _ _ 4 [.int .i64 4] from rfl) (Reps.one (show Kd.M (Kd.int .i64) _ _ _ 5 [.int .i64 5] from rfl) (Reps.one (show Kd.M (Kd.int .i64) _ _ _ 6 [.int .i64 6] from rfl) (Reps.one (show Kd.M (Kd.int .i64) _ _ _ 7 [.int .i64 7] from rfl) (Reps.one (show Kd.M (Kd.int .i64) _ _ _ 8 [.int .i64 8] from rfl) (Reps.one (show Kd.M (Kd.int .i64) _ _ _ 9 [.int .i64 9] from rfl) (Reps.one (show Kd.M (Kd.int .i64) _ _ _ 100 [.int .i64 100] from rfl) (Reps.one (show Kd.M (Kd.int .i64) _ _ _ 101 [.int .i64 101] from rfl) (Reps.one (show Kd.M (Kd.int .i64) _ _ _ 103 [.int .i64 103] from rfl) (Reps.one (show Kd.M (Kd.int .i64) _ _ _ 1099 [.int .i64 1099] from rfl) (Reps.none _ _))))))))))))))); intro v171 w32 ho33 hb hg_ hnew_; clear hg_ hnew_; (first | rw [← Ny170.out] at ho33 | (simp only [Int.reduceToNat] at ho33; rw [← Ny170.out] at ho33)); have n_ := t5 (rE (pR HO_3) (rB ho33) hb) (rL (rW ho33 (Kd.R_lt (pR HO_3))) (keep_size (w := w) (g := g) (row := none) zd4)) (IsS129.below zd7 hb) (KeepBut.trans zd4 (KeepBut.of_below hb g none) (.inl rfl)) (bz_ zd6 hb); clear HO_3 HI0 HK HB; obtain ⟨HO_3, HO172, HI0, HK, HB⟩ := n_; clear hb ho33; obtain ⟨Ao34, co34, eo34⟩ := rS HO172.out; subst eo34) | ((with_reducible refine gC (f := 78) rfl ?_); refine goesL_ (some 39) rfl rfl Try.func78 (by kernel_rfl) rfl #[.pointer (some ⟨g, 0, none⟩), .slice Ao34 y170.length co34] rfl pA ?_; (with_reducible refine (spec_l1Pick.calls g s0_0 x1001_2 _ _ y170 t173 t174 w0 _ ?side1 ?side2 ?side3 ?side4 ?side5 A30.out).mono ?_); (case side1 => exact zd7); (case side2 => exact zd6); (case side3 => exact pC (rr HO172.out).2.2); (case side4 => exact (rr HO172.out).2.1); (case side5 => exact far_slice (IsS129.own_ne HI0.out HO172.out (by decide))); rintro e w35 ⟨rfl, hi, hb, hk⟩; refine ⟨_, rfl, ?_⟩; have n_ := t5 (Kd.R_mono (Kd.R_keep (IsS129.apart (show IsS129 w0 _ g s0_0 x1001_2 from by repeat (first | (with_reducible first | exact HI0.out | apply IsS129.alloc | apply IsS129.drewN | apply IsS129.drew | apply IsS129.set_1) | exact HI0.out)) (pR HO_3) (by decide)) hk (fun _ h => h.2)) (fun _ h => h.1)) (Kd.R_mono (Kd.R_keep (IsS129.apart (show IsS129 w0 _ g s0_0 x1001_2 from by repeat (first | (with_reducible first | exact HI0.out | apply IsS129.alloc | apply IsS129.drewN | apply IsS129.drew | apply IsS129.set_1) | exact HI0.out)) (pR HO172) (by decide)) hk (fun _ h => h.2)) (fun _ h => h.1)) (KeepBut.trans zd4 hk (.inl rfl)) (hb) (hi); clear HO_3 HO172 HK HB HI0; obtain ⟨HO_3, HO172, HK, HB, HI0⟩ := n_; (try clear hb); (try clear hk); (try clear hi)) | ((with_reducible refine gB (b := .append) (xs := #[.tmp 36, .tmp 40]) rfl ?_); at_builtin; refine Kd.R_append (Kd.int .i64) w.heap.size rfl (.tmp 36) (.tmp 40) 32 2 (.int .i64 0) 8 rfl Try.underlying32 info2 rfl (by decide) (by omega) u3 x3_2 t173 [.int .i64 t173] (fun k_ => some k_ ≠ (.slice Ao34 y170.length co34 : Value).ownBlock) (fun _ => False) rfl rfl ?aP (fun _ hk => hk.elim) ?aF ?aO (Below.refl _ _) ?aS ?aL ?_; (case aP => exact rfl); (case aF => exact (fun k_ hk => Kd.fresh' (Kd.R_lt (pR HO172)) k_ hk)); (case aO => exact (pT (Kd.R_mono HO_3.out (fun _ hk => hk.2)))); (case aS => exact (keep_size (w := w) (g := g) (row := none) zd4)); (case aL => have := LMc31.out; omega); intro v176 w36 ho hb hg hat; rw [← Ny175.out] at ho; have n_ := t5 (IsS129.grown zd7 hg (IsS129.own_ne HI0.out HO_3.out (by decide))) (Kd.R_after (ok := (fun _ => True)) (pR HO172) hg hat) (below_weaken zd6 HL.out hb) (KeepBut.trans zd4 (KeepBut.of_grown hg g) (Kd.R_base2 HO_3.out)) (ho); clear HI0 HO172 HB HK HO_3; obtain ⟨HI0, HO172, HB, HK, HO177⟩ := n_; clear ho hb hg hat))
               go_roundg k2
               case measure => have := HJ2.out; have := HK2.out; omega
               case rel => exact ⟨(y175), (wrap64 (x4_2 - 1)), (t174), pF, H', ⟨by have := HJ2.out; have := HK2.out; omega⟩, ⟨(pT (Kd.R_mono HO177.out (fun _ hk => trivial)))⟩, ⟨by repeat (first | (with_reducible first | exact HI0.out | apply IsS129.alloc | apply IsS129.drewN | apply IsS129.drew | apply IsS129.set_1) | exact HI0.out)⟩, ⟨by repeat (first | (with_reducible first | exact HK.out | apply KeepBut.set_ | apply keep_drewN | apply keep_drew | apply keep_alloc) | exact HK.out)⟩, ⟨by repeat (first | (with_reducible first | exact HB.out | apply below_alloc | apply pw_below_drewN | apply below_drew1 | refine below_set ?_ (IsS129.ge HI0.out)) | exact HB.out)⟩⟩
             · rw [if_neg c31] at H
               exact absurd H (by simp)
           · rw [if_neg c29] at H
             have c29b0 : decide (0 < x4_2) = false := decide_eq_false c29
             clear c29
             simp only [Option.some.injEq, Prod.mk.injEq] at H
             obtain ⟨rfl, rfl⟩ := H
             go_wp2
             go_ret
             exact ⟨_, pE, (pR HO_3), zd7, zd6, zd4⟩
end Go.Proofs.Ythjlbpgiaehjnaa.QFnNames
