/- what a transaction is called hangs on all but its proofs. -/
import Derived.Test.YthjlbpgiaehjnaaQFnNamesx1
import Derived.Test.YthjlbpgiaehjnaaQFnNamesx2
import Derived.Test.YthjlbpgiaehjnaaQFnNamesx3
import Derived.Test.YthjlbpgiaehjnaaQFnNamesx4
import Derived.Test.YthjlbpgiaehjnaaQFnNamesx5
import Derived.Test.YthjlbpgiaehjnaaQFnNamesx6
import Derived.Test.YthjlbpgiaehjnaaQFnNamesx7
import Derived.Test.YthjlbpgiaehjnaaQFnNamesx8
import Derived.Test.YthjlbpgiaehjnaaQFnNamesx9
import Derived.Test.YthjlbpgiaehjnaaQFnNamesx10
import Derived.Test.YthjlbpgiaehjnaaQFnNamesx11
import Derived.Test.YthjlbpgiaehjnaaQFnNamesx12
import Derived.Test.YthjlbpgiaehjnaaQFnNamesx13
import Derived.Test.YthjlbpgiaehjnaaQFnNamesx14
import Derived.Test.YthjlbpgiaehjnaaQFnNamesx15
namespace Go.Proofs.Ythjlbpgiaehjnaa.Pure
open Go.RowKit Go.Proofs.Ythjlbpgiaehjnaa.QFnNames Go.Proofs.YthjlbpgiaehjnaaW.PrintWords Go.Proofs.YthjlbpgiaehjnaaW.PrintLast
set_option linter.unusedVariables false
set_option linter.unusedSimpArgs false
theorem wrap_id {x : Int} (h1 : -9223372036854775808 ≤ x) (h2 : x ≤ 9223372036854775807) : wrap64 x = x := by
 unfold wrap64; omega
theorem wf64 {x : Int} (h : (Lit.int .i64 x).wf = true) : -9223372036854775808 ≤ x ∧ x ≤ 9223372036854775807 := by
 simpa [Lit.wf, IntKind.min, IntKind.max, IntKind.signed, IntKind.bits] using h
theorem wf8 {x : Int} (h : (Lit.int .u8 x).wf = true) : 0 ≤ x ∧ x ≤ 255 := by
 simpa [Lit.wf, IntKind.min, IntKind.max, IntKind.signed, IntKind.bits] using h
theorem ev_some {α : Type} {g : Nat → Option α} {r : α} (h : ∀ k, g k = some r) : Ev g r := ⟨0, fun k _ => h k⟩
theorem ev_succ {α : Type} {g : Nat → Option α} {r : α} (h : ∀ k, g (k + 1) = some r) : Ev g r := Ev.step h (Ev.now r)
theorem ev_bind {α β : Type} {g : Nat → Option α} {f : α → Nat → Option β} {a : α} {r : β} (h : Ev g a) (k : Ev (f a) r) : Ev (fun n => (g n).bind fun t => f t n) r :=
 Ev.bind (f := fun n t => f t n) h k
theorem ev_if {α : Type} {p : Prop} [Decidable p] {g f : Nat → Option α} {r : α} (hp : p) (k : Ev g r) : Ev (fun n => if p then g n else f n) r :=
 Ev.congr (fun n => if_pos hp) k
theorem ev_ifn {α : Type} {p : Prop} [Decidable p] {g f : Nat → Option α} {r : α} (hp : ¬ p) (k : Ev f r) : Ev (fun n => if p then g n else f n) r :=
 Ev.congr (fun n => if_neg hp) k
theorem ev_bind0 {α β : Type} {g : Option α} {f : α → Nat → Option β} {a : α} {r : β} (h : g = some a) (k : Ev (f a) r) : Ev (fun n => g.bind fun t => f t n) r := by
 subst h; exact k
theorem rd_mid (pre : List Int) (b : Int) (suf : List Int) : rd (pre ++ b :: suf) (pre.length : Int) = b := by
 unfold rd
 simp
theorem rd_at {l : List Int} {i : Int} (h0 : 0 ≤ i) (h1 : i < l.length) : rd l i = l[i.toNat]'(by omega) := by
 unfold rd
 rw [List.getD_eq_getElem?_getD, List.getElem?_eq_getElem (by omega)]; rfl
theorem split_at_len {α : Type} (l : List α) (n : Nat) (h : n ≤ l.length) : ∃ pre suf, l = pre ++ suf ∧ pre.length = n :=
 ⟨l.take n, l.drop n, (List.take_append_drop n l).symm, by simp; omega⟩
def AllIn (l : List Int) (lo hi : Int) : Prop := ∀ x ∈ l, lo ≤ x ∧ x ≤ hi
instance (l : List Int) (lo hi : Int) : Decidable (AllIn l lo hi) := by unfold AllIn; infer_instance
theorem AllIn_cons {b : Int} {l : List Int} {lo hi : Int} : AllIn (b :: l) lo hi ↔ (lo ≤ b ∧ b ≤ hi) ∧ AllIn l lo hi := by simp [AllIn]
theorem spec_l1In_eq (a b c : Int) : spec_l1In.f a b c = some (decide (b ≤ a ∧ a ≤ c)) := by
 unfold spec_l1In.f
 by_cases h : a ≥ b
 · rw [if_pos h]; congr 1; rw [Bool.eq_iff_iff]; simp; omega
 · rw [if_neg h]; congr 1; symm; simp; omega
theorem impl_in_eq (a b c : Int) : impl_in.f a b c = some (decide (b ≤ a ∧ a ≤ c)) := by
 unfold impl_in.f
 by_cases h : a ≥ b
 · rw [if_pos h]; congr 1; rw [Bool.eq_iff_iff]; simp; omega
 · rw [if_neg h]; congr 1; symm; simp; omega
theorem spec_l1All_l0 (lo hi : Int) (suf : List Int) : ∀ (pre : List Int), (pre.length : Int) + suf.length ≤ 9223372036854775806 →
 Ev (fun k => spec_l1All.l0 k (pre ++ suf) lo hi pre.length) (decide (AllIn suf lo hi)) := by
 induction suf with
 | nil => intro pre _; exact ev_succ (fun k => by rw [spec_l1All.l0, if_neg (by simp)]; simp [AllIn])
 | cons b suf ih =>
  intro pre hl
  simp only [List.length_cons, Int.natCast_add, Int.natCast_one] at hl
  have h := ih (pre ++ [b]) (by simp; omega)
  by_cases hb : lo ≤ b ∧ b ≤ hi
  · have e : decide (AllIn (b :: suf) lo hi) = decide (AllIn suf lo hi) := by simp [AllIn_cons, hb]
    rw [e]
    refine Ev.step (fun k => ?_) h
    rw [spec_l1All.l0, if_pos (by simp; omega), if_pos (by omega), rd_mid, spec_l1In_eq, wrap_id (by omega) (by omega)]
    simp [hb]
  · have e : decide (AllIn (b :: suf) lo hi) = false := by simp [AllIn_cons, hb]
    rw [e]
    refine ev_succ (fun k => ?_)
    rw [spec_l1All.l0, if_pos (by simp; omega), if_pos (by omega), rd_mid, spec_l1In_eq]
    simp [hb]
theorem spec_l1All_ev {l : List Int} (lo hi : Int) (hl : (l.length : Int) ≤ 9223372036854775806) : Ev (fun k => spec_l1All.f k l lo hi) (decide (AllIn l lo hi)) := by
 unfold spec_l1All.f
 exact spec_l1All_l0 lo hi l [] (by simpa using hl)
theorem spec_l1Amount_eq (a : Int) : spec_l1Amount.f a = some (decide (0 ≤ a ∧ a ≤ 1000000)) := by
 unfold spec_l1Amount.f; rw [spec_l1In_eq]; rfl
theorem impl_isAmount_eq (a : Int) : impl_isAmount.f a = some (decide (0 ≤ a ∧ a ≤ 1000000)) := by
 unfold impl_isAmount.f; rw [impl_in_eq]; rfl
theorem slices_IndexFunc_at_impl_ProgramFault_1_l0 (p : Int → Bool) (hp : ∀ x, impl_ProgramFault_1.f x = some (p x)) (suf : List Int) : ∀ (pre : List Int), (pre.length : Int) + suf.length ≤ 9223372036854775806 →
 ∃ r : Int, Ev (fun k => slices_IndexFunc_at_impl_ProgramFault_1.l0 k (pre ++ suf) ((pre ++ suf).length : Int) pre.length) r ∧ decide (r ≥ 0) = suf.any p := by
 induction suf with
 | nil => intro pre _; exact ⟨-1, ev_succ (fun k => by rw [slices_IndexFunc_at_impl_ProgramFault_1.l0, if_neg (by simp)]), by simp⟩
 | cons b suf ih =>
  intro pre hl
  simp only [List.length_cons, Int.natCast_add, Int.natCast_one] at hl
  cases hb : p b with
  | true =>
   refine ⟨pre.length, ev_succ (fun k => ?_), by simp [hb]⟩
   rw [slices_IndexFunc_at_impl_ProgramFault_1.l0, if_pos (by simp; omega), if_pos (by omega), if_pos (by simp; omega), rd_mid, hp, hb]
   rfl
  | false =>
   obtain ⟨r, h, hr⟩ := ih (pre ++ [b]) (by simp; omega)
   refine ⟨r, Ev.step (fun k => ?_) h, by simp [hb, hr]⟩
   rw [slices_IndexFunc_at_impl_ProgramFault_1.l0, if_pos (by simp; omega), if_pos (by omega), if_pos (by simp; omega), rd_mid, hp, hb, wrap_id (by omega) (by omega)]
   simp
theorem slices_ContainsFunc_at_impl_ProgramFault_1_ev (p : Int → Bool) (hp : ∀ x, impl_ProgramFault_1.f x = some (p x)) {l : List Int} (hl : (l.length : Int) ≤ 9223372036854775806) :
 Ev (fun k => slices_ContainsFunc_at_impl_ProgramFault_1.f k l) (l.any p) := by
 obtain ⟨r, h, hr⟩ := slices_IndexFunc_at_impl_ProgramFault_1_l0 p hp l [] (by simpa using hl)
 rw [← hr]
 unfold slices_ContainsFunc_at_impl_ProgramFault_1.f slices_IndexFunc_at_impl_ProgramFault_1.f
 exact ev_bind (by simpa using h) (Ev.now _)
def opBad (x : Int) : Bool := !(decide (1 ≤ x ∧ x ≤ 9) || decide (100 ≤ x ∧ x ≤ 1099))
def faultP (l : List Int) : Int := if l.length > 12 then 2 else if l.any opBad then 1 else 0
theorem spec_l2Op_eq (x : Int) : spec_l2Op.f x = some (!opBad x) := by
 unfold spec_l2Op.f opBad
 simp only [spec_l1In_eq, Option.bind_some]
 by_cases h : 1 ≤ x ∧ x ≤ 9 <;> simp [h]
theorem impl_ProgramFault_1_eq (x : Int) : impl_ProgramFault_1.f x = some (opBad x) := by
 unfold impl_ProgramFault_1.f opBad
 simp only [impl_in_eq, Option.bind_some]
 by_cases h : 1 ≤ x ∧ x ≤ 9 <;> simp [h]
theorem spec_l2Fault_l0 (suf : List Int) : ∀ (pre : List Int), (pre.length : Int) + suf.length ≤ 9223372036854775806 →
 Ev (fun k => spec_l2Fault.l0 k (pre ++ suf) pre.length) (if suf.any opBad then 1 else 0) := by
 induction suf with
 | nil => intro pre _; exact ev_succ (fun k => by rw [spec_l2Fault.l0, if_neg (by simp)]; simp)
 | cons b suf ih =>
  intro pre hl
  simp only [List.length_cons, Int.natCast_add, Int.natCast_one] at hl
  cases hb : opBad b with
  | true =>
   refine ev_succ (fun k => ?_)
   rw [spec_l2Fault.l0, if_pos (by simp; omega), if_pos (by omega), rd_mid, spec_l2Op_eq, hb]
   simp [hb]
  | false =>
   have h := ih (pre ++ [b]) (by simp; omega)
   have e : (b :: suf).any opBad = suf.any opBad := by simp [hb]
   rw [e]
   refine Ev.step (fun k => ?_) h
   rw [spec_l2Fault.l0, if_pos (by simp; omega), if_pos (by omega), rd_mid, spec_l2Op_eq, hb, wrap_id (by omega) (by omega)]
   simp
theorem spec_l2Fault_ev {l : List Int} (hl : (l.length : Int) ≤ 9223372036854775806) : Ev (fun k => spec_l2Fault.f k l) (faultP l) := by
 unfold spec_l2Fault.f faultP
 by_cases h : l.length > 12
 · rw [if_pos h]; exact ev_if (by omega) (Ev.now _)
 · rw [if_neg h]; exact ev_ifn (by omega) (spec_l2Fault_l0 l [] (by simpa using hl))
theorem impl_ProgramFault_ev {l : List Int} (hl : (l.length : Int) ≤ 9223372036854775806) : Ev (fun k => impl_ProgramFault.f k l) (faultP l) := by
 unfold impl_ProgramFault.f faultP
 by_cases h : l.length > 12
 · rw [if_pos h]; exact ev_if (by omega) (Ev.now _)
 · rw [if_neg h]
   refine ev_ifn (by omega) (ev_bind (slices_ContainsFunc_at_impl_ProgramFault_1_ev opBad impl_ProgramFault_1_eq hl) ?_)
   cases l.any opBad with
   | true => exact ev_if rfl (Ev.now _)
   | false => exact ev_ifn (by decide) (Ev.now _)
theorem slices_IndexFunc_at_impl_badCell_l0 (p : Int → Bool) (hp : ∀ x, impl_badCell.f x = some (p x)) (suf : List Int) : ∀ (pre : List Int), (pre.length : Int) + suf.length ≤ 9223372036854775806 →
 ∃ r : Int, Ev (fun k => slices_IndexFunc_at_impl_badCell.l0 k (pre ++ suf) ((pre ++ suf).length : Int) pre.length) r ∧ decide (r ≥ 0) = suf.any p := by
 induction suf with
 | nil => intro pre _; exact ⟨-1, ev_succ (fun k => by rw [slices_IndexFunc_at_impl_badCell.l0, if_neg (by simp)]), by simp⟩
 | cons b suf ih =>
  intro pre hl
  simp only [List.length_cons, Int.natCast_add, Int.natCast_one] at hl
  cases hb : p b with
  | true =>
   refine ⟨pre.length, ev_succ (fun k => ?_), by simp [hb]⟩
   rw [slices_IndexFunc_at_impl_badCell.l0, if_pos (by simp; omega), if_pos (by omega), if_pos (by simp; omega), rd_mid, hp, hb]
   rfl
  | false =>
   obtain ⟨r, h, hr⟩ := ih (pre ++ [b]) (by simp; omega)
   refine ⟨r, Ev.step (fun k => ?_) h, by simp [hb, hr]⟩
   rw [slices_IndexFunc_at_impl_badCell.l0, if_pos (by simp; omega), if_pos (by omega), if_pos (by simp; omega), rd_mid, hp, hb, wrap_id (by omega) (by omega)]
   simp
theorem slices_ContainsFunc_at_impl_badCell_ev (p : Int → Bool) (hp : ∀ x, impl_badCell.f x = some (p x)) {l : List Int} (hl : (l.length : Int) ≤ 9223372036854775806) :
 Ev (fun k => slices_ContainsFunc_at_impl_badCell.f k l) (l.any p) := by
 obtain ⟨r, h, hr⟩ := slices_IndexFunc_at_impl_badCell_l0 p hp l [] (by simpa using hl)
 rw [← hr]
 unfold slices_ContainsFunc_at_impl_badCell.f slices_IndexFunc_at_impl_badCell.f
 exact ev_bind (by simpa using h) (Ev.now _)
theorem impl_isSum_eq (a : Int) : impl_isSum.f a = some (decide (0 ≤ a ∧ a ≤ 2147483646)) := by
 unfold impl_isSum.f; rw [impl_in_eq]; rfl
def inBad (x : S34) : Bool := !(decide (0 ≤ x.f0 ∧ x.f0 ≤ 2147483646) && decide (0 ≤ x.f1 ∧ x.f1 ≤ 3))
def sameIn (x y : S34) : Bool := decide (x.f0 = y.f0) && (x.f1 == y.f1)
def inF (ahead : List S34) (x : S34) : Int := if inBad x = true then 3 else if (x.f2.length : Int) > 8 then 2 else if decide (AllIn x.f2 0 9999) = true then (if ahead.any (sameIn x) = true then 6 else 0) else 3
def insF : List S34 → List S34 → Int → Int
 | _, [], e => e
 | p, x :: xs, e => if inF p x = 0 then insF (p ++ [x]) xs e else inF p x
def outSumF : Int → List S86 → Int
 | a, [] => a
 | a, x :: xs => outSumF (wrap64 (a + x.f0)) xs
def endV (a : Int) : Int := if 0 ≤ a ∧ a ≤ 1000000 then 0 else 7
def outsF : List S86 → Int → Int
 | [], e => e
 | y :: ys, e => if 0 ≤ y.f0 ∧ y.f0 ≤ 1000000 then (if faultP y.f1 = 0 then outsF ys e else faultP y.f1) else 3
def txF (t : S27) : Int := if 0 ≤ t.f0 ∧ t.f0 ≤ 65535 then (if (t.f1.length : Int) > 4 ∨ (t.f2.length : Int) < 1 ∨ (t.f2.length : Int) > 4 then 2 else insF [] t.f1 (outsF t.f2 (endV (outSumF 0 t.f2)))) else 3
theorem rdI (pre : List S34) (b : S34) (suf : List S34) : rd_T34 (pre ++ b :: suf) (pre.length : Int) = b := by unfold rd_T34; simp
theorem rdO (pre : List S86) (b : S86) (suf : List S86) : rd_T86 (pre ++ b :: suf) (pre.length : Int) = b := by unfold rd_T86; simp
theorem spec_l3In_l0 (x : S34) (suf : List S34) (p2 : List S34) : ∀ (p1 : List S34), (p1.length : Int) + p2.length + suf.length ≤ 1048576 →
 Ev (fun k => spec_l3In.l0 k (p1 ++ (p2 ++ x :: suf)) ((p1.length : Int) + p2.length) p1.length) (if p2.any (sameIn x) = true then 6 else 0) := by
 induction p2 with
 | nil => intro p1 _; exact ev_succ (fun k => by rw [spec_l3In.l0, if_neg (by simp)]; simp)
 | cons b p2 ih =>
  intro p1 hl
  simp only [List.length_cons, Int.natCast_add, Int.natCast_one] at hl ⊢
  have h := ih (p1 ++ [b]) (by simp; omega)
  have e1 : rd_T34 (p1 ++ (b :: p2 ++ x :: suf)) (p1.length : Int) = b := rdI p1 b _
  have e2 : rd_T34 (p1 ++ (b :: p2 ++ x :: suf)) ((p1.length : Int) + (p2.length + 1)) = x := by
   have := rdI (p1 ++ b :: p2) x suf
   simpa using this
  have hstep : ∀ k, spec_l3In.l0 (k + 1) (p1 ++ (b :: p2 ++ x :: suf)) ((p1.length : Int) + (p2.length + 1)) p1.length = (if b.f0 = x.f0 then (if b.f1 = x.f1 then some 6 else spec_l3In.l0 k (p1 ++ (b :: p2 ++ x :: suf)) ((p1.length : Int) + (p2.length + 1)) ((p1.length : Int) + 1)) else spec_l3In.l0 k (p1 ++ (b :: p2 ++ x :: suf)) ((p1.length : Int) + (p2.length + 1)) ((p1.length : Int) + 1)) := by
   intro k
   rw [spec_l3In.l0, if_pos (by omega), if_pos (by omega), if_pos (by simp; omega), if_pos (by omega), if_pos (by simp; omega), e1, e2, wrap_id (by omega) (by omega)]
  have h' : Ev (fun k => spec_l3In.l0 k (p1 ++ (b :: p2 ++ x :: suf)) ((p1.length : Int) + (p2.length + 1)) ((p1.length : Int) + 1)) (if p2.any (sameIn x) = true then 6 else 0) := by
   have q : ((p1 ++ [b]).length : Int) = (p1.length : Int) + 1 := by simp
   rw [q] at h
   have q2 : (p1.length : Int) + 1 + (p2.length : Int) = (p1.length : Int) + ((p2.length : Int) + 1) := by omega
   rw [q2] at h
   simpa using h
  by_cases h0 : b.f0 = x.f0
  · by_cases h1 : b.f1 = x.f1
    · refine ev_succ (fun k => ?_)
      rw [hstep, if_pos h0, if_pos h1]
      simp [sameIn, h0, h1]
    · refine Ev.step (fun k => by rw [hstep, if_pos h0, if_neg h1]) ?_
      have e : (b :: p2).any (sameIn x) = p2.any (sameIn x) := by simp [sameIn, h0, Ne.symm h1]
      rw [e]; exact h'
  · refine Ev.step (fun k => by rw [hstep, if_neg h0]) ?_
    have e : (b :: p2).any (sameIn x) = p2.any (sameIn x) := by simp [sameIn, Ne.symm h0]
    rw [e]; exact h'
theorem spec_l3In_ev (pre : List S34) (x : S34) (suf : List S34) (hx : (x.f2.length : Int) ≤ 1048576) (hl : (pre.length : Int) + suf.length + 1 ≤ 1048576) :
 Ev (fun k => spec_l3In.f k (pre ++ x :: suf) pre.length) (inF pre x) := by
 unfold spec_l3In.f
 refine ev_if (by omega) (ev_if (by simp; omega) ?_)
 refine Ev.congr (f := fun k => spec_l3In.j0 k (pre ++ x :: suf) pre.length (inBad x)) (fun k => ?_) ?_
 · rw [rdI, spec_l1In_eq, spec_l1In_eq]
   simp only [Option.bind_some, inBad]
   cases decide (0 ≤ x.f0 ∧ x.f0 ≤ 2147483646) <;> cases decide (0 ≤ x.f1 ∧ x.f1 ≤ 3) <;> simp
 · unfold inF
   cases hb : inBad x with
   | true => exact ev_succ (fun k => by rw [spec_l3In.j0]; simp)
   | false =>
    rw [if_neg (by decide)]
    refine Ev.step (f := fun k => if (x.f2.length : Int) > 8 then some 2 else (spec_l1All.f k x.f2 0 9999).bind fun t => if t = true then spec_l3In.l0 k (pre ++ x :: suf) pre.length 0 else some 3) (fun k => ?_) ?_
    · rw [spec_l3In.j0, if_neg (by decide), if_pos (by omega), if_pos (by simp; omega), rdI]
    · by_cases h8 : (x.f2.length : Int) > 8
      · rw [if_pos h8]; exact ev_if h8 (Ev.now _)
      · rw [if_neg h8]
        refine ev_ifn h8 (ev_bind (spec_l1All_ev 0 9999 (by omega)) ?_)
        by_cases ha : decide (AllIn x.f2 0 9999) = true
        · rw [if_pos ha]
          refine ev_if ha ?_
          have := spec_l3In_l0 x suf pre [] (by simp; omega)
          simpa using this
        · rw [if_neg ha]; exact ev_ifn ha (Ev.now _)
theorem spec_l3Outs_l0 (suf : List S86) : ∀ (pre : List S86) (a : Int), (∀ x ∈ suf, (x.f1.length : Int) ≤ 1048576) → (pre.length : Int) + suf.length ≤ 1048576 →
 Ev (fun k => spec_l3Outs.l0 k (pre ++ suf) a pre.length) (outsF suf (endV (outSumF a suf))) := by
 induction suf with
 | nil =>
  intro pre a _ _
  simp only [outsF, outSumF, endV]
  refine ev_succ (fun k => ?_)
  rw [spec_l3Outs.l0, if_neg (by simp), spec_l1Amount_eq]
  simp only [Option.bind_some, decide_eq_true_eq]
  by_cases hh : 0 ≤ a ∧ a ≤ 1000000 <;> simp [hh]
 | cons b suf ih =>
  intro pre a hs hl
  simp only [List.length_cons, Int.natCast_add, Int.natCast_one] at hl
  have h := ih (pre ++ [b]) (wrap64 (a + b.f0)) (fun x hx => hs x (by simp [hx])) (by simp; omega)
  rw [show ((pre ++ [b]).length : Int) = (pre.length : Int) + 1 from by simp, show pre ++ [b] ++ suf = pre ++ b :: suf from by simp] at h
  simp only [outsF, outSumF]
  by_cases hb : 0 ≤ b.f0 ∧ b.f0 ≤ 1000000
  · rw [if_pos hb]
    refine Ev.step (f := fun k => (spec_l2Fault.f k b.f1).bind fun t => if t = 0 then spec_l3Outs.l0 k (pre ++ b :: suf) (wrap64 (a + b.f0)) ((pre.length : Int) + 1) else some t) (fun k => ?_) (ev_bind (spec_l2Fault_ev (by have := hs b (by simp); omega)) ?_)
    · rw [spec_l3Outs.l0, if_pos (by simp; omega), if_pos (by omega), rdO, spec_l1Amount_eq, wrap_id (x := (pre.length : Int) + 1) (by omega) (by omega)]
      simp [hb]
    · by_cases hf : faultP b.f1 = 0
      · rw [if_pos hf]; exact ev_if hf h
      · rw [if_neg hf]; exact ev_ifn hf (Ev.now _)
  · rw [if_neg hb]
    refine ev_succ (fun k => ?_)
    rw [spec_l3Outs.l0, if_pos (by simp; omega), if_pos (by omega), rdO, spec_l1Amount_eq]
    simp [hb]
theorem spec_l3Fault_l0 (t : S27) (e : Int) (he : Ev (fun k => spec_l3Outs.f k t.f2) e) (suf : List S34) : ∀ (pre : List S34), t.f1 = pre ++ suf → (∀ x ∈ suf, (x.f2.length : Int) ≤ 1048576) → (pre.length : Int) + suf.length ≤ 1048576 →
 Ev (fun k => spec_l3Fault_in.l0 k [t] pre.length) (insF pre suf e) := by
 have hrd : rd_T27 [t] 0 = t := rfl
 induction suf with
 | nil =>
  intro pre ht _ _
  refine Ev.step (f := fun k => (spec_l3Outs.f k t.f2).bind fun t9 => some t9) (fun k => ?_) (ev_bind he (Ev.now _))
  rw [spec_l3Fault_in.l0, if_pos (by simp), hrd, if_neg (by rw [ht]; simp)]
 | cons b suf ih =>
  intro pre ht hs hl
  simp only [List.length_cons, Int.natCast_add, Int.natCast_one] at hl
  have h := ih (pre ++ [b]) (by rw [ht]; simp) (fun x hx => hs x (by simp [hx])) (by simp; omega)
  rw [show ((pre ++ [b]).length : Int) = (pre.length : Int) + 1 from by simp] at h
  refine Ev.step (f := fun k => (spec_l3In.f k (pre ++ b :: suf) pre.length).bind fun t7 => if t7 = 0 then spec_l3Fault_in.l0 k [t] ((pre.length : Int) + 1) else some t7) (fun k => ?_) (ev_bind (spec_l3In_ev pre b suf (hs b (by simp)) (by omega)) ?_)
  · rw [spec_l3Fault_in.l0, if_pos (by simp), hrd, if_pos (by rw [ht]; simp; omega), ht, wrap_id (x := (pre.length : Int) + 1) (by omega) (by omega)]
  · unfold insF
    by_cases hf : inF pre b = 0
    · rw [if_pos hf]; exact ev_if hf h
    · rw [if_neg hf]; exact ev_ifn hf (Ev.now _)
theorem spec_l3Fault_ev {t : S27} (h1 : t.f1.length ≤ 1048576 ∧ ∀ x ∈ t.f1, (x.f2.length : Int) ≤ 1048576) (h2 : t.f2.length ≤ 1048576 ∧ ∀ x ∈ t.f2, (x.f1.length : Int) ≤ 1048576) : Ev (fun k => spec_l3Fault.f k t.f0 t.f1 t.f2) (txF t) := by
 unfold spec_l3Fault.f spec_l3Fault_in.f txF
 have hrd : rd_T27 [t] 0 = t := rfl
 have ht : (⟨t.f0, t.f1, t.f2⟩ : S27) = t := rfl
 rw [ht]
 refine ev_if (by simp) ?_
 rw [hrd]
 refine ev_bind0 (spec_l1In_eq _ _ _) ?_
 by_cases hn : 0 ≤ t.f0 ∧ t.f0 ≤ 65535
 · rw [if_pos hn]
   refine ev_if (by simpa using hn) ?_
   have go : Ev (fun k => spec_l3Fault_in.l0 k [t] 0) (insF [] t.f1 (outsF t.f2 (endV (outSumF 0 t.f2)))) := by
    have := spec_l3Fault_l0 t _ (by unfold spec_l3Outs.f; exact spec_l3Outs_l0 t.f2 [] 0 h2.2 (by simp; omega)) t.f1 [] (by simp) h1.2 (by simp; omega)
    simpa using this
   have bad : Ev (fun k => spec_l3Fault_in.j0 k [t] true) 2 := ev_succ (fun k => by rw [spec_l3Fault_in.j0]; simp)
   by_cases c1 : (t.f1.length : Int) > 4
   · rw [if_pos (.inl c1)]; exact ev_if c1 bad
   · refine ev_ifn c1 ?_
     by_cases c2 : (t.f2.length : Int) < 1
     · rw [if_pos (.inr (.inl c2))]; exact ev_if c2 bad
     · refine ev_ifn c2 ?_
       by_cases c3 : (t.f2.length : Int) > 4
       · rw [if_pos (.inr (.inr c3)), decide_eq_true c3]; exact bad
       · rw [if_neg (by omega), decide_eq_false c3]
         exact Ev.step (fun k => by rw [spec_l3Fault_in.j0, if_neg (by decide)]) go
 · rw [if_neg hn]; exact ev_ifn (by simpa using hn) (Ev.now _)
theorem impl_badCell_eq (x : Int) : impl_badCell.f x = some (!decide (0 ≤ x ∧ x ≤ 9999)) := by
 unfold impl_badCell.f; rw [impl_in_eq]; rfl
theorem inFault_1_eq (x y : S34) : impl_inFault_1_in.f y.f0 y.f1 y.f2 [x] = some (sameIn x y) := by
 have hrd : rd_T34 [x] 0 = x := rfl
 unfold impl_inFault_1_in.f sameIn
 rw [if_pos (by simp), hrd]
 by_cases h : x.f0 = y.f0 <;> simp [h]
theorem inFault_index (x : S34) (suf : List S34) : ∀ (pre : List S34) (n : Int), n = (pre.length : Int) + suf.length → n ≤ 1048576 →
 ∃ r : Int, Ev (fun k => impl_IndexFunc_at_impl_inFault_1_in.l0 k (pre ++ suf) [x] n pre.length) r ∧ decide (r ≥ 0) = suf.any (sameIn x) := by
 induction suf with
 | nil => intro pre n hn _; subst hn; exact ⟨-1, ev_succ (fun k => by rw [impl_IndexFunc_at_impl_inFault_1_in.l0, if_neg (by simp)]), by simp⟩
 | cons b suf ih =>
  intro pre n hn hl
  simp only [List.length_cons, Int.natCast_add, Int.natCast_one] at hn
  cases hb : sameIn x b with
  | true =>
   refine ⟨pre.length, ev_succ (fun k => ?_), by simp [hb]⟩
   rw [impl_IndexFunc_at_impl_inFault_1_in.l0, if_pos (by omega), if_pos (by omega), if_pos (by simp; omega), rdI, inFault_1_eq, hb]
   rfl
  | false =>
   obtain ⟨r, h, hr⟩ := ih (pre ++ [b]) n (by simp; omega) hl
   refine ⟨r, Ev.step (fun k => ?_) h, by simp [hb, hr]⟩
   rw [impl_IndexFunc_at_impl_inFault_1_in.l0, if_pos (by omega), if_pos (by omega), if_pos (by simp; omega), rdI, inFault_1_eq, hb, wrap_id (by omega) (by omega)]
   simp
theorem inFault_any (x : S34) {l : List S34} (hl : (l.length : Int) ≤ 1048576) : Ev (fun k => impl_ContainsFunc_at_impl_inFault_1.f k l x.f0 x.f1 x.f2) (l.any (sameIn x)) := by
 obtain ⟨r, h, hr⟩ := inFault_index x l [] l.length (by simp) hl
 rw [← hr]
 unfold impl_ContainsFunc_at_impl_inFault_1.f impl_ContainsFunc_at_impl_inFault_1_in.f impl_IndexFunc_at_impl_inFault_1_in.f
 exact ev_bind (by simpa using h) (Ev.now _)
theorem any_not_all (l : List Int) : l.any (fun x => !decide (0 ≤ x ∧ x ≤ 9999)) = !decide (AllIn l 0 9999) := by
 induction l with
 | nil => simp [AllIn]
 | cons b l ih =>
  rw [List.any_cons, ih]
  by_cases hb : 0 ≤ b ∧ b ≤ 9999 <;> simp [AllIn_cons, hb]
theorem impl_inFault_ev (pre : List S34) (x : S34) (hx : (x.f2.length : Int) ≤ 1048576) (hl : (pre.length : Int) ≤ 1048576) : Ev (fun k => impl_inFault.f k x.f0 x.f1 x.f2 pre) (inF pre x) := by
 unfold impl_inFault.f
 refine Ev.congr (f := fun k => impl_inFault.j0 k pre (inBad x) x.f0 x.f1 x.f2) (fun k => ?_) ?_
 · rw [impl_isSum_eq, impl_in_eq]
   simp only [Option.bind_some, inBad]
   cases decide (0 ≤ x.f0 ∧ x.f0 ≤ 2147483646) <;> cases decide (0 ≤ x.f1 ∧ x.f1 ≤ 3) <;> simp
 · unfold inF
   cases hb : inBad x with
   | true => exact ev_succ (fun k => by rw [impl_inFault.j0]; simp)
   | false =>
    rw [if_neg (by decide)]
    refine Ev.step (fun k => by rw [impl_inFault.j0, if_neg (by decide)]) ?_
    by_cases h8 : (x.f2.length : Int) > 8
    · rw [if_pos h8]; exact ev_if h8 (Ev.now _)
    · rw [if_neg h8]
      refine ev_ifn h8 (ev_bind (slices_ContainsFunc_at_impl_badCell_ev _ impl_badCell_eq (by omega)) ?_)
      rw [any_not_all]
      by_cases ha : decide (AllIn x.f2 0 9999) = true
      · rw [if_pos ha, ha]
        refine ev_ifn (by decide) (ev_bind (inFault_any x hl) ?_)
        by_cases hh : pre.any (sameIn x) = true
        · rw [if_pos hh, if_pos hh]; exact Ev.now _
        · rw [if_neg hh, if_neg hh]; exact Ev.now _
      · rw [if_neg ha]; exact ev_if (by simpa using ha) (Ev.now _)
theorem impl_outSum_l0 (suf : List S86) : ∀ (pre : List S86) (a : Int) (n : Int), n = (pre.length : Int) + suf.length → n ≤ 1048576 →
 Ev (fun k => impl_outSum.l0 k a (pre ++ suf) n pre.length) (outSumF a suf) := by
 induction suf with
 | nil => intro pre a n hn _; subst hn; exact ev_succ (fun k => by rw [impl_outSum.l0, if_neg (by simp)]; rfl)
 | cons b suf ih =>
  intro pre a n hn hl
  simp only [List.length_cons, Int.natCast_add, Int.natCast_one] at hn
  have h := ih (pre ++ [b]) (wrap64 (a + b.f0)) n (by simp; omega) hl
  refine Ev.step (fun k => ?_) (by simpa [outSumF] using h)
  rw [impl_outSum.l0, if_pos (by omega), if_pos (by omega), if_pos (by simp; omega), rdO, wrap_id (x := (pre.length : Int) + 1) (by omega) (by omega)]
theorem impl_outSum_ev {l : List S86} (hl : l.length ≤ 1048576) : Ev (fun k => impl_outSum.f k l) (outSumF 0 l) := by
 unfold impl_outSum.f
 exact impl_outSum_l0 l [] 0 l.length (by simp) (by omega)
theorem impl_TxFault_l1 (t : S27) (h2 : t.f2.length ≤ 1048576) (suf : List S86) : ∀ (pre : List S86) (n : Int), n = (pre.length : Int) + suf.length → (∀ x ∈ suf, (x.f1.length : Int) ≤ 1048576) → n ≤ 1048576 →
 Ev (fun k => impl_TxFault.l1 k (pre ++ suf) n pre.length t.f0 t.f1 t.f2) (outsF suf (endV (outSumF 0 t.f2))) := by
 induction suf with
 | nil =>
  intro pre n hn _ _
  simp only [List.length_nil, Int.natCast_zero, Int.add_zero] at hn
  simp only [outsF, endV]
  refine Ev.step (f := fun k => (impl_outSum.f k t.f2).bind fun s => (impl_isAmount.f s).bind fun c => if c = true then some 0 else some 7) (fun k => ?_) (ev_bind (impl_outSum_ev h2) (ev_bind0 (impl_isAmount_eq _) ?_))
  · rw [impl_TxFault.l1, if_neg (by omega)]
  · by_cases h : 0 ≤ outSumF 0 t.f2 ∧ outSumF 0 t.f2 ≤ 1000000
    · rw [if_pos h]; exact ev_if (by simpa using h) (Ev.now _)
    · rw [if_neg h]; exact ev_ifn (by simpa using h) (Ev.now _)
 | cons b suf ih =>
  intro pre n hn hs hl
  simp only [List.length_cons, Int.natCast_add, Int.natCast_one] at hn
  have h := ih (pre ++ [b]) n (by simp; omega) (fun x hx => hs x (by simp [hx])) hl
  rw [show ((pre ++ [b]).length : Int) = (pre.length : Int) + 1 from by simp, show pre ++ [b] ++ suf = pre ++ b :: suf from by simp] at h
  simp only [outsF]
  by_cases hb : 0 ≤ b.f0 ∧ b.f0 ≤ 1000000
  · rw [if_pos hb]
    refine Ev.step (f := fun k => (impl_ProgramFault.f k b.f1).bind fun t1 => if t1 = 0 then impl_TxFault.l1 k (pre ++ b :: suf) n ((pre.length : Int) + 1) t.f0 t.f1 t.f2 else some t1) (fun k => ?_) (ev_bind (impl_ProgramFault_ev (by have := hs b (by simp); omega)) ?_)
    · rw [impl_TxFault.l1, if_pos (by omega), if_pos (by omega), if_pos (by simp; omega), rdO, impl_isAmount_eq, wrap_id (x := (pre.length : Int) + 1) (by omega) (by omega)]
      simp [hb]
    · by_cases hf : faultP b.f1 = 0
      · rw [if_pos hf]; exact ev_if hf h
      · rw [if_neg hf]; exact ev_ifn hf (Ev.now _)
  · rw [if_neg hb]
    refine ev_succ (fun k => ?_)
    rw [impl_TxFault.l1, if_pos (by omega), if_pos (by omega), if_pos (by simp; omega), rdO, impl_isAmount_eq]
    simp [hb]
theorem impl_TxFault_l0 (t : S27) (e : Int) (he : Ev (fun k => impl_TxFault.l1 k t.f2 (t.f2.length : Int) 0 t.f0 t.f1 t.f2) e) (suf : List S34) : ∀ (pre : List S34), t.f1 = pre ++ suf → (∀ x ∈ suf, (x.f2.length : Int) ≤ 1048576) → (pre.length : Int) + suf.length ≤ 1048576 →
 Ev (fun k => impl_TxFault.l0 k t.f1 (t.f1.length : Int) pre.length t.f0 t.f1 t.f2) (insF pre suf e) := by
 induction suf with
 | nil =>
  intro pre ht _ _
  refine Ev.step (fun k => ?_) he
  rw [impl_TxFault.l0, if_neg (by rw [ht]; simp)]
 | cons b suf ih =>
  intro pre ht hs hl
  simp only [List.length_cons, Int.natCast_add, Int.natCast_one] at hl
  have h := ih (pre ++ [b]) (by rw [ht]; simp) (fun x hx => hs x (by simp [hx])) (by simp; omega)
  rw [show ((pre ++ [b]).length : Int) = (pre.length : Int) + 1 from by simp] at h
  have hlen : (t.f1.length : Int) = (pre.length : Int) + (suf.length + 1) := by rw [ht]; simp
  have e1 : rd_T34 t.f1 (pre.length : Int) = b := by rw [ht]; exact rdI pre b suf
  have e2 : t.f1.take ((pre.length : Int)).toNat = pre := by rw [ht]; simp
  refine Ev.step (f := fun k => (impl_inFault.f k b.f0 b.f1 b.f2 pre).bind fun t7 => if t7 = 0 then impl_TxFault.l0 k t.f1 (t.f1.length : Int) ((pre.length : Int) + 1) t.f0 t.f1 t.f2 else some t7) (fun k => ?_) (ev_bind (impl_inFault_ev pre b (hs b (by simp)) (by omega)) ?_)
  · rw [impl_TxFault.l0, if_pos (by omega), if_pos (by omega), if_pos (by omega), if_pos (by omega), e1, e2, wrap_id (x := (pre.length : Int) + 1) (by omega) (by omega)]
  · unfold insF
    by_cases hf : inF pre b = 0
    · rw [if_pos hf]; exact ev_if hf h
    · rw [if_neg hf]; exact ev_ifn hf (Ev.now _)
theorem impl_TxFault_ev {t : S27} (h1 : t.f1.length ≤ 1048576 ∧ ∀ x ∈ t.f1, (x.f2.length : Int) ≤ 1048576) (h2 : t.f2.length ≤ 1048576 ∧ ∀ x ∈ t.f2, (x.f1.length : Int) ≤ 1048576) : Ev (fun k => impl_TxFault.f k t.f0 t.f1 t.f2) (txF t) := by
 unfold impl_TxFault.f txF
 refine ev_bind0 (impl_in_eq _ _ _) ?_
 by_cases hn : 0 ≤ t.f0 ∧ t.f0 ≤ 65535
 · rw [if_pos hn]
   refine ev_if (by simpa using hn) ?_
   by_cases c1 : (t.f1.length : Int) > 4
   · rw [if_pos (.inl c1)]; exact ev_if c1 (Ev.now _)
   · refine ev_ifn c1 (ev_bind0 (impl_in_eq _ _ _) ?_)
     by_cases c2 : 1 ≤ (t.f2.length : Int) ∧ (t.f2.length : Int) ≤ 4
     · rw [if_neg (by omega)]
       refine ev_if (by simpa using c2) ?_
       have l1 := impl_TxFault_l1 t h2.1 t.f2 [] t.f2.length (by simp) h2.2 (by omega)
       have := impl_TxFault_l0 t _ (by simpa using l1) t.f1 [] (by simp) h1.2 (by simp; omega)
       simpa using this
     · rw [if_pos (by omega)]; exact ev_ifn (by simpa using c2) (Ev.now _)
 · rw [if_neg hn]; exact ev_ifn (by simpa using hn) (Ev.now _)
def varB (n : Int) : List Int := if n < 253 then [n % 256] else [253, n % 256, n / 256 % 256]
theorem varB_len (n : Int) : (varB n).length ≤ 3 := by unfold varB; split <;> simp
def stepS (a b : Int) : Int := (33 * a + b + 1) % 2147483647
def sumB (l : List Int) : Int := l.foldl stepS 5381
def Bytes (l : List Int) : Prop := ∀ x ∈ l, 0 ≤ x ∧ x ≤ 255
theorem stepS_bd (a b : Int) : 0 ≤ stepS a b ∧ stepS a b < 2147483647 := by unfold stepS; omega
theorem sumB_bd_go (l : List Int) : ∀ a : Int, 0 ≤ a → a < 2147483647 → 0 ≤ l.foldl stepS a ∧ l.foldl stepS a < 2147483647 := by
 induction l with
 | nil => intro a h0 h1; exact ⟨h0, h1⟩
 | cons b l ih => intro a _ _; exact ih _ (stepS_bd a b).1 (stepS_bd a b).2
theorem sumB_bd (l : List Int) : 0 ≤ sumB l ∧ sumB l ≤ 2147483646 := by
 have := sumB_bd_go l 5381 (by omega) (by omega)
 unfold sumB; omega
theorem step_wrap {a b : Int} (h0 : 0 ≤ a) (h1 : a < 2147483647) (hb : 0 ≤ b ∧ b ≤ 255) :
 Int.tmod (wrap64 ((wrap64 ((wrap64 (a * 33)) + (wrap64 b))) + 1)) 2147483647 = stepS a b := by
 rw [wrap_id (x := a * 33) (by omega) (by omega), wrap_id (x := b) (by omega) (by omega), wrap_id (x := a * 33 + b) (by omega) (by omega), wrap_id (x := a * 33 + b + 1) (by omega) (by omega), Int.tmod_eq_emod_of_nonneg (by omega)]
 unfold stepS; rw [Int.mul_comm a 33]
def bigB (n : Int) : List Int := varB (n % 65536) ++ varB (n / 65536)
def listB (l : List Int) : List Int := varB l.length ++ (l.map varB).flatten
def inB (p : Bool) (x : S34) : List Int := bigB x.f0 ++ (varB x.f1 ++ (if p = true then listB x.f2 else [0]))
def outB (y : S86) : List Int := bigB y.f0 ++ listB y.f1
def packB (p : Bool) (t : S27) : List Int := varB t.f0 ++ (varB t.f1.length ++ ((t.f1.map (inB p)).flatten ++ (varB t.f2.length ++ (t.f2.map outB).flatten)))
def InOk (x : S34) : Prop := (0 ≤ x.f0 ∧ x.f0 ≤ 2147483646) ∧ (0 ≤ x.f1 ∧ x.f1 ≤ 3) ∧ x.f2.length ≤ 8 ∧ AllIn x.f2 0 9999
def OutOk (y : S86) : Prop := (0 ≤ y.f0 ∧ y.f0 ≤ 1000000) ∧ y.f1.length ≤ 12 ∧ AllIn y.f1 0 9999
def TxOk (t : S27) : Prop := (0 ≤ t.f0 ∧ t.f0 ≤ 65535) ∧ t.f1.length ≤ 4 ∧ (1 ≤ t.f2.length ∧ t.f2.length ≤ 4) ∧ (∀ x ∈ t.f1, InOk x) ∧ ∀ y ∈ t.f2, OutOk y
theorem inF_ok {p : List S34} {x : S34} (h : inF p x = 0) : InOk x := by
 unfold inF at h
 split at h
 · omega
 · rename_i h0
   split at h
   · omega
   · split at h
     · rename_i h8 ha
       refine ⟨?_, ?_, by omega, of_decide_eq_true ha⟩ <;> (unfold inBad at h0; simp at h0; omega)
     · omega
theorem insF_ok (s : List S34) : ∀ (p : List S34) (e : Int), insF p s e = 0 → (∀ x ∈ s, InOk x) ∧ e = 0 := by
 induction s with
 | nil => intro p e h; exact ⟨by simp, h⟩
 | cons x s ih =>
  intro p e h
  unfold insF at h
  by_cases hx : inF p x = 0
  · rw [if_pos hx] at h
    obtain ⟨h1, h2⟩ := ih _ _ h
    refine ⟨fun y hy => ?_, h2⟩
    rcases List.mem_cons.1 hy with rfl | hy
    · exact inF_ok hx
    · exact h1 y hy
  · rw [if_neg hx] at h; exact absurd h hx
theorem faultP_ok {l : List Int} (h : faultP l = 0) : l.length ≤ 12 ∧ AllIn l 0 9999 := by
 unfold faultP at h
 split at h
 · omega
 · rename_i h12
   split at h
   · omega
   · rename_i hb
     refine ⟨by omega, fun x hx => ?_⟩
     have : opBad x = false := by
      cases ho : opBad x with
      | false => rfl
      | true => exact absurd (List.any_eq_true.2 ⟨x, hx, ho⟩) hb
     unfold opBad at this
     simp at this
     omega
theorem outsF_ok (s : List S86) : ∀ (e : Int), outsF s e = 0 → ∀ y ∈ s, OutOk y := by
 induction s with
 | nil => intro e _; simp
 | cons x s ih =>
  intro e h y hy
  unfold outsF at h
  split at h
  · rename_i hx
    by_cases hf : faultP x.f1 = 0
    · rw [if_pos hf] at h
      rcases List.mem_cons.1 hy with rfl | hy
      · exact ⟨hx, faultP_ok hf⟩
      · exact ih e h y hy
    · rw [if_neg hf] at h; exact absurd h hf
  · omega
theorem txF_ok {t : S27} (h : txF t = 0) : TxOk t := by
 unfold txF at h
 split at h
 · rename_i hn
   split at h
   · omega
   · rename_i hc
     obtain ⟨h1, h2⟩ := insF_ok _ _ _ h
     exact ⟨hn, by omega, by omega, h1, outsF_ok _ _ h2⟩
 · omega
theorem varB_bytes (n : Int) : Bytes (varB n) := by
 unfold varB; split <;> (intro x hx; simp at hx; rcases hx with rfl | rfl | rfl) <;> omega
theorem Bytes_append {a b : List Int} (ha : Bytes a) (hb : Bytes b) : Bytes (a ++ b) := by
 intro x hx; rcases List.mem_append.1 hx with h | h
 · exact ha x h
 · exact hb x h
theorem Bytes_flat {α : Type} {f : α → List Int} {l : List α} (h : ∀ x ∈ l, Bytes (f x)) : Bytes (l.map f).flatten := by
 intro x hx
 obtain ⟨y, hy, hx⟩ := List.mem_flatten.1 hx
 obtain ⟨z, hz, rfl⟩ := List.mem_map.1 hy
 exact h z hz x hx
theorem flat_len {α : Type} {f : α → List Int} {n : Nat} : ∀ {l : List α}, (∀ x ∈ l, (f x).length ≤ n) → (l.map f).flatten.length ≤ n * l.length
 | [], _ => by simp
 | x :: l, h => by
  have h1 := h x (by simp)
  have h2 := flat_len (f := f) (n := n) (l := l) (fun y hy => h y (by simp [hy]))
  simp only [List.map_cons, List.flatten_cons, List.length_append, List.length_cons, Nat.mul_add, Nat.mul_one]
  omega
theorem listB_len {l : List Int} {n : Nat} (h : l.length ≤ n) : (listB l).length ≤ 3 + 3 * n := by
 unfold listB
 have h1 := varB_len l.length
 have h2 := flat_len (f := varB) (n := 3) (l := l) (fun x _ => varB_len x)
 simp only [List.length_append]
 omega
theorem bigB_len (n : Int) : (bigB n).length ≤ 6 := by
 unfold bigB; have h1 := varB_len (n % 65536); have h2 := varB_len (n / 65536); simp only [List.length_append]; omega
theorem inB_len {p : Bool} {x : S34} (h : InOk x) : (inB p x).length ≤ 36 := by
 unfold inB
 have h1 := bigB_len x.f0; have h2 := varB_len x.f1; have h3 := listB_len h.2.2.1
 cases p <;> simp <;> omega
theorem outB_len {y : S86} (h : OutOk y) : (outB y).length ≤ 45 := by
 unfold outB
 have h1 := bigB_len y.f0; have h3 := listB_len h.2.1
 simp only [List.length_append]; omega
theorem bigB_bytes (n : Int) : Bytes (bigB n) := Bytes_append (varB_bytes _) (varB_bytes _)
theorem listB_bytes (l : List Int) : Bytes (listB l) := Bytes_append (varB_bytes _) (Bytes_flat (fun x _ => varB_bytes x))
theorem packB_bytes (p : Bool) (t : S27) : Bytes (packB p t) := by
 unfold packB
 refine Bytes_append (varB_bytes _) (Bytes_append (varB_bytes _) (Bytes_append (Bytes_flat (fun x _ => ?_)) (Bytes_append (varB_bytes _) (Bytes_flat (fun y _ => ?_)))))
 · unfold inB
   refine Bytes_append (bigB_bytes _) (Bytes_append (varB_bytes _) ?_)
   cases p
   · intro x hx; simp at hx; omega
   · exact listB_bytes _
 · exact Bytes_append (bigB_bytes _) (listB_bytes _)
theorem spec_l3Put_eq {n : Int} (h1 : n ≤ 9223372036854775807) : spec_l3Put.f n = some (varB n) := by
 unfold spec_l3Put.f varB
 by_cases h : n < 253
 · rw [if_pos h, if_pos h]
 · rw [if_neg h, if_neg h, Int.tmod_eq_emod_of_nonneg (by omega), Int.tdiv_eq_ediv_of_nonneg (by omega), wrap_id (by omega) (by omega)]
   have : n % 256 % 256 = n % 256 := by omega
   rw [this]
theorem spec_l1Sum_l0 (suf : List Int) : ∀ (pre : List Int) (a : Int), 0 ≤ a → a < 2147483647 → Bytes suf → (pre.length : Int) + suf.length ≤ 9223372036854775806 →
 Ev (fun k => spec_l1Sum.l0 k (pre ++ suf) a pre.length) (suf.foldl stepS a) := by
 induction suf with
 | nil => intro pre a _ _ _ _; exact ev_succ (fun k => by simp [spec_l1Sum.l0])
 | cons b suf ih =>
  intro pre a h0 h1 hb hl
  have hb0 := hb b List.mem_cons_self
  simp only [List.length_cons, Int.natCast_add, Int.natCast_one] at hl
  have h := ih (pre ++ [b]) (stepS a b) (stepS_bd a b).1 (stepS_bd a b).2 (fun x hx => hb x (List.mem_cons_of_mem _ hx)) (by simp; omega)
  refine Ev.step (fun k => ?_) h
  rw [spec_l1Sum.l0]
  rw [if_pos (by simp; omega), if_pos (by omega), rd_mid, step_wrap h0 h1 hb0, wrap_id (by omega) (by omega)]
  simp
theorem spec_l1Sum_ev {l : List Int} (hb : Bytes l) (hl : (l.length : Int) ≤ 9223372036854775806) : Ev (fun k => spec_l1Sum.f k l) (sumB l) :=
 spec_l1Sum_l0 l [] 5381 (by omega) (by omega) hb (by simpa using hl)
theorem spec_l3Big_eq {n : Int} (h0 : 0 ≤ n) (h1 : n ≤ 9223372036854775807) : spec_l3Big.f n = some (bigB n) := by
 unfold spec_l3Big.f bigB
 rw [Int.tmod_eq_emod_of_nonneg h0, Int.tdiv_eq_ediv_of_nonneg h0, wrap_id (by omega) (by omega), spec_l3Put_eq (by omega), spec_l3Put_eq (by omega)]
 simp only [Option.bind_some]
 have a := varB_len (n % 65536)
 have b := varB_len (n / 65536)
 rw [if_pos (by omega)]
theorem spec_l3List_l0 (suf : List Int) : ∀ (pre acc : List Int), (∀ x ∈ suf, x ≤ 9223372036854775807) → pre.length + suf.length ≤ 1000 → acc.length + 3 * suf.length ≤ 100000 →
 Ev (fun k => spec_l3List.l0 k (pre ++ suf) acc pre.length) (acc ++ (suf.map varB).flatten) := by
 induction suf with
 | nil => intro pre acc _ _ _; exact ev_succ (fun k => by rw [spec_l3List.l0, if_neg (by simp)]; simp)
 | cons b suf ih =>
  intro pre acc hs hp hl
  simp only [List.length_cons] at hp hl
  have hv := varB_len b
  have h := ih (pre ++ [b]) (acc ++ varB b) (fun x hx => hs x (by simp [hx])) (by simp; omega) (by simp only [List.length_append]; omega)
  rw [show ((pre ++ [b]).length : Int) = (pre.length : Int) + 1 from by simp, show pre ++ [b] ++ suf = pre ++ b :: suf from by simp] at h
  refine Ev.step (fun k => ?_) (by simpa using h)
  rw [spec_l3List.l0, if_pos (by simp; omega), if_pos (by omega), rd_mid, spec_l3Put_eq (hs b (by simp))]
  simp only [Option.bind_some]
  rw [if_pos (by omega), wrap_id (by omega) (by omega)]
theorem spec_l3List_ev {l : List Int} (hs : ∀ x ∈ l, x ≤ 9223372036854775807) (hl : l.length ≤ 1000) : Ev (fun k => spec_l3List.f k l) (listB l) := by
 unfold spec_l3List.f listB
 have hv := varB_len (l.length : Int)
 refine ev_bind0 (spec_l3Put_eq (by omega)) ?_
 have := spec_l3List_l0 l [] (varB l.length) hs (by simp; omega) (by omega)
 simpa using this
theorem le_of_allIn {l : List Int} {lo hi : Int} (h : AllIn l lo hi) (hh : hi ≤ 9223372036854775807) : ∀ x ∈ l, x ≤ 9223372036854775807 := fun x hx => by have := (h x hx).2; omega
theorem spec_l3Pack_l1 (t : S27) (suf : List S86) : ∀ (pre : List S86) (acc : List Int), t.f2 = pre ++ suf → (∀ y ∈ suf, OutOk y) → pre.length + suf.length ≤ 4 → acc.length + 45 * suf.length ≤ 100000 →
 Ev (fun k => spec_l3Pack_in.l1 k [t] acc pre.length) (acc ++ (suf.map outB).flatten) := by
 have hrd : rd_T27 [t] 0 = t := rfl
 induction suf with
 | nil => intro pre acc ht _ _ _; exact ev_succ (fun k => by rw [spec_l3Pack_in.l1, if_pos (by simp), hrd, if_neg (by rw [ht]; simp)]; simp)
 | cons b suf ih =>
  intro pre acc ht hs hp hl
  simp only [List.length_cons] at hp hl
  have hb := hs b (by simp)
  have l1 := bigB_len b.f0
  have l2 := listB_len hb.2.1
  have h := ih (pre ++ [b]) (acc ++ bigB b.f0 ++ listB b.f1) (by rw [ht]; simp) (fun y hy => hs y (by simp [hy])) (by simp; omega) (by simp only [List.length_append]; omega)
  rw [show ((pre ++ [b]).length : Int) = (pre.length : Int) + 1 from by simp] at h
  refine Ev.step (f := fun k => (spec_l3List.f k b.f1).bind fun t351 => if (acc ++ bigB b.f0).length + t351.length < 140737488355328 then spec_l3Pack_in.l1 k [t] (acc ++ bigB b.f0 ++ t351) ((pre.length : Int) + 1) else none) (fun k => ?_) (ev_bind (spec_l3List_ev (le_of_allIn hb.2.2 (by omega)) (by have := hb.2.1; omega)) (ev_if (by simp only [List.length_append]; omega) (by simpa [outB] using h)))
  rw [spec_l3Pack_in.l1, if_pos (by simp), hrd, if_pos (by rw [ht]; simp; omega), if_pos (by omega), ht, rdO, spec_l3Big_eq (by have := hb.1; omega) (by have := hb.1; omega)]
  simp only [Option.bind_some]
  rw [if_pos (by omega), wrap_id (by omega) (by omega)]
theorem spec_l3Pack_l0 (p : Bool) (t : S27) (ho : ∀ y ∈ t.f2, OutOk y) (h2 : t.f2.length ≤ 4) (suf : List S34) : ∀ (pre : List S34) (acc : List Int), t.f1 = pre ++ suf → (∀ x ∈ suf, InOk x) → pre.length + suf.length ≤ 4 → acc.length + 36 * suf.length ≤ 10000 →
 Ev (fun k => spec_l3Pack_in.l0 k [t] p acc pre.length) (acc ++ ((suf.map (inB p)).flatten ++ (varB t.f2.length ++ (t.f2.map outB).flatten))) := by
 have hrd : rd_T27 [t] 0 = t := rfl
 induction suf with
 | nil =>
  intro pre acc ht _ _ hl
  have hv := varB_len (t.f2.length : Int)
  have h := spec_l3Pack_l1 t t.f2 [] (acc ++ varB t.f2.length) (by simp) ho (by simpa using h2) (by simp only [List.length_append]; omega)
  refine Ev.step (f := fun k => spec_l3Pack_in.l1 k [t] (acc ++ varB t.f2.length) 0) (fun k => ?_) (by simpa using h)
  rw [spec_l3Pack_in.l0, if_pos (by simp), hrd, if_neg (by rw [ht]; simp), spec_l3Put_eq (by omega)]
  simp only [Option.bind_some]
  rw [if_pos (by omega)]
 | cons b suf ih =>
  intro pre acc ht hs hp hl
  simp only [List.length_cons] at hp hl
  have hb := hs b (by simp)
  have l1 := bigB_len b.f0
  have l2 := listB_len hb.2.2.1
  have l3 := varB_len b.f1
  have h := ih (pre ++ [b]) (acc ++ bigB b.f0 ++ varB b.f1 ++ (if p = true then listB b.f2 else [0])) (by rw [ht]; simp) (fun y hy => hs y (by simp [hy])) (by simp; omega) (by cases p <;> simp <;> omega)
  rw [show ((pre ++ [b]).length : Int) = (pre.length : Int) + 1 from by simp] at h
  have hstep : ∀ k, spec_l3Pack_in.l0 (k + 1) [t] p acc pre.length = (if p = true then ((spec_l3List.f k b.f2).bind fun t325 => (if (acc ++ bigB b.f0 ++ varB b.f1).length + t325.length < 140737488355328 then (spec_l3Pack_in.l0 k [t] p ((acc ++ bigB b.f0 ++ varB b.f1) ++ t325) ((pre.length : Int) + 1)) else (none))) else (if (acc ++ bigB b.f0 ++ varB b.f1).length < 140737488355328 then (spec_l3Pack_in.l0 k [t] p ((acc ++ bigB b.f0 ++ varB b.f1) ++ [0]) ((pre.length : Int) + 1)) else (none))) := by
   intro k
   rw [spec_l3Pack_in.l0, if_pos (by simp), hrd, if_pos (by rw [ht]; simp; omega), if_pos (by omega), ht, rdI, spec_l3Big_eq (by have := hb.1; omega) (by have := hb.1; omega)]
   simp only [Option.bind_some]
   rw [if_pos (by omega), spec_l3Put_eq (by have := hb.2.1; omega)]
   simp only [Option.bind_some]
   rw [if_pos (by simp only [List.length_append]; omega), wrap_id (by omega) (by omega)]
  cases p with
  | true =>
   refine Ev.step (f := fun k => (spec_l3List.f k b.f2).bind fun t325 => (if (acc ++ bigB b.f0 ++ varB b.f1).length + t325.length < 140737488355328 then (spec_l3Pack_in.l0 k [t] true ((acc ++ bigB b.f0 ++ varB b.f1) ++ t325) ((pre.length : Int) + 1)) else (none))) (fun k => by rw [hstep, if_pos rfl]) ?_
   refine ev_bind (spec_l3List_ev (le_of_allIn hb.2.2.2 (by omega)) (by have := hb.2.2.1; omega)) (ev_if (by simp only [List.length_append]; omega) ?_)
   simpa [inB] using h
  | false =>
   refine Ev.step (f := fun k => if (acc ++ bigB b.f0 ++ varB b.f1).length < 140737488355328 then (spec_l3Pack_in.l0 k [t] false ((acc ++ bigB b.f0 ++ varB b.f1) ++ [0]) ((pre.length : Int) + 1)) else (none)) (fun k => by rw [hstep, if_neg (by decide)]) ?_
   refine ev_if (by simp only [List.length_append]; omega) ?_
   simpa [inB] using h
theorem spec_l3Pack_ev (p : Bool) {t : S27} (h : TxOk t) : Ev (fun k => spec_l3Pack.f k t.f0 t.f1 t.f2 p) (packB p t) := by
 unfold spec_l3Pack.f spec_l3Pack_in.f packB
 have hrd : rd_T27 [t] 0 = t := rfl
 have ht : (⟨t.f0, t.f1, t.f2⟩ : S27) = t := rfl
 obtain ⟨h0, h1, h2, hi, ho⟩ := h
 have v1 := varB_len t.f0
 have v2 := varB_len (t.f1.length : Int)
 rw [ht]
 refine ev_if (by simp) ?_
 rw [hrd]
 refine ev_bind0 (spec_l3Put_eq (by omega)) (ev_bind0 (spec_l3Put_eq (by omega)) (ev_if (by omega) ?_))
 have := spec_l3Pack_l0 p t ho h2.2 t.f1 [] (varB t.f0 ++ varB t.f1.length) (by simp) hi (by simpa using h1) (by simp only [List.length_append]; omega)
 simpa using this
theorem packB_len (p : Bool) {t : S27} (h : TxOk t) : (packB p t).length ≤ 1000 := by
 unfold packB
 obtain ⟨h0, h1, h2, hi, ho⟩ := h
 have v1 := varB_len t.f0
 have v2 := varB_len (t.f1.length : Int)
 have v3 := varB_len (t.f2.length : Int)
 have f1 := flat_len (f := inB p) (n := 36) (l := t.f1) (fun x hx => inB_len (hi x hx))
 have f2 := flat_len (f := outB) (n := 45) (l := t.f2) (fun x hx => outB_len (ho x hx))
 simp only [List.length_append]
 omega
theorem spec_l3Sum_ev {t : S27} (h : TxOk t) : Ev (fun k => spec_l3Sum.f k t.f0 t.f1 t.f2) (sumB (packB false t)) := by
 unfold spec_l3Sum.f spec_l3Sum_in.f
 have hrd : rd_T27 [t] 0 = t := rfl
 have ht : (⟨t.f0, t.f1, t.f2⟩ : S27) = t := rfl
 have hl := packB_len false h
 rw [ht]
 refine ev_if (by simp) ?_
 rw [hrd]
 exact ev_bind (spec_l3Pack_ev false h) (ev_bind (spec_l1Sum_ev (packB_bytes _ _) (by omega)) (Ev.now _))
theorem impl_putVar_eq (n : Int) : impl_putVar.f n = some (varB n) := by
 unfold impl_putVar.f varB; split <;> rfl
theorem impl_sumOf_l0 (suf : List Int) : ∀ (pre : List Int) (a : Int), 0 ≤ a → a < 2147483647 → Bytes suf → (pre.length : Int) + suf.length ≤ 9223372036854775806 →
 Ev (fun k => impl_sumOf.l0 k a (pre ++ suf) ((pre ++ suf).length : Int) pre.length) (suf.foldl stepS a) := by
 induction suf with
 | nil => intro pre a _ _ _ _; exact ev_succ (fun k => by simp [impl_sumOf.l0])
 | cons b suf ih =>
  intro pre a h0 h1 hb hl
  have hb0 := hb b List.mem_cons_self
  simp only [List.length_cons, Int.natCast_add, Int.natCast_one] at hl
  have h := ih (pre ++ [b]) (stepS a b) (stepS_bd a b).1 (stepS_bd a b).2 (fun x hx => hb x (List.mem_cons_of_mem _ hx)) (by simp; omega)
  refine Ev.step (fun k => ?_) h
  rw [impl_sumOf.l0]
  rw [if_pos (by simp; omega), if_pos (by omega), if_pos (by simp; omega), rd_mid, Int.mul_comm 33 a, step_wrap h0 h1 hb0, wrap_id (by omega) (by omega)]
  simp
theorem impl_sumOf_ev {l : List Int} (hb : Bytes l) (hl : (l.length : Int) ≤ 9223372036854775806) : Ev (fun k => impl_sumOf.f k l) (sumB l) :=
 impl_sumOf_l0 l [] 5381 (by omega) (by omega) hb (by simpa using hl)
theorem slices_Concat_byte_byte_rd (pre : List (List Int)) (b : List Int) (suf : List (List Int)) : rd_L5 (pre ++ b :: suf) (pre.length : Int) = b := by
 unfold rd_L5
 simp
theorem slices_Concat_byte_byte_l1 (suf : List (List Int)) : ∀ (pre : List (List Int)) (acc : List Int), pre.length + suf.length ≤ 100000 → acc.length + suf.flatten.length ≤ 1000000000 →
 Ev (fun k => slices_Concat_byte_byte.l1 k acc (pre ++ suf) ((pre ++ suf).length : Int) pre.length) (acc ++ suf.flatten) := by
 induction suf with
 | nil => intro pre acc _ _; exact ev_succ (fun k => by rw [slices_Concat_byte_byte.l1, if_neg (by simp)]; simp)
 | cons b suf ih =>
  intro pre acc h1 h2
  simp only [List.length_cons, List.flatten_cons, List.length_append] at h1 h2
  have h := ih (pre ++ [b]) (acc ++ b) (by simp; omega) (by simp only [List.length_append]; omega)
  refine Ev.step (fun k => ?_) (by simpa using h)
  rw [slices_Concat_byte_byte.l1, if_pos (by simp; omega), if_pos (by omega), if_pos (by simp; omega), slices_Concat_byte_byte_rd, if_pos (by omega), wrap_id (by omega) (by omega)]
  simp
theorem slices_Concat_byte_byte_l0 (suf : List (List Int)) : ∀ (pre : List (List Int)) (n : Int), 0 ≤ n → n + suf.flatten.length ≤ 1000000000 → pre.length + suf.length ≤ 100000 → (pre ++ suf).flatten.length ≤ 1000000000 →
 Ev (fun k => slices_Concat_byte_byte.l0 k (pre ++ suf) n (pre ++ suf) ((pre ++ suf).length : Int) pre.length) (pre ++ suf).flatten := by
 induction suf with
 | nil =>
  intro pre n h0 h1 h2 h3
  refine Ev.step (f := fun k => (slices_Grow_at_nil.f n).bind fun t => slices_Concat_byte_byte.l1 k t (pre ++ []) ((pre ++ []).length : Int) 0) (fun k => by rw [slices_Concat_byte_byte.l0, if_neg (by simp)]) ?_
  refine ev_bind0 (a := []) (by unfold slices_Grow_at_nil.f; rw [if_pos h0, if_pos (by simp at h1; omega)]) ?_
  have := slices_Concat_byte_byte_l1 (pre ++ []) [] [] (by simpa using h2) (by simpa using h3)
  simpa using this
 | cons b suf ih =>
  intro pre n h0 h1 h2 h3
  simp only [List.length_cons, List.flatten_cons, List.length_append] at h1 h2
  have h := ih (pre ++ [b]) (n + b.length) (by omega) (by omega) (by simp; omega) (by simpa using h3)
  refine Ev.step (fun k => ?_) (by simpa using h)
  rw [slices_Concat_byte_byte.l0, if_pos (by simp; omega), if_pos (by omega), if_pos (by simp; omega), slices_Concat_byte_byte_rd, wrap_id (x := n + (b.length : Int)) (by omega) (by omega), if_neg (by omega), wrap_id (by omega) (by omega)]
  simp
theorem slices_Concat_byte_byte_ev {x : List (List Int)} (h1 : x.length ≤ 100000) (h2 : x.flatten.length ≤ 1000000000) : Ev (fun k => slices_Concat_byte_byte.f k x) x.flatten := by
 have := slices_Concat_byte_byte_l0 x [] 0 (by omega) (by omega) (by simpa using h1) (by simpa using h2)
 unfold slices_Concat_byte_byte.f
 simpa using this
theorem impl_halves_eq {n : Int} (h0 : 0 ≤ n) (h1 : n ≤ 9223372036854775807) : impl_halves.f n = some (bigB n) := by
 unfold impl_halves.f bigB
 rw [Int.tmod_eq_emod_of_nonneg h0, Int.tdiv_eq_ediv_of_nonneg h0, wrap_id (by omega) (by omega), impl_putVar_eq, impl_putVar_eq]
 simp only [Option.bind_some]
 have a := varB_len (n % 65536)
 have b := varB_len (n / 65536)
 rw [if_pos (by omega)]
theorem impl_numbers_l0 (suf : List Int) : ∀ (pre acc : List Int) (n : Int), n = (pre.length : Int) + suf.length → n ≤ 1000 → acc.length + 3 * suf.length ≤ 100000 →
 Ev (fun k => impl_numbers.l0 k acc (pre ++ suf) n pre.length) (acc ++ (suf.map varB).flatten) := by
 induction suf with
 | nil => intro pre acc n hn _ _; subst hn; exact ev_succ (fun k => by rw [impl_numbers.l0, if_neg (by simp)]; simp)
 | cons b suf ih =>
  intro pre acc n hn hp hl
  simp only [List.length_cons, Int.natCast_add, Int.natCast_one] at hn hl
  have hv := varB_len b
  have h := ih (pre ++ [b]) (acc ++ varB b) n (by simp; omega) hp (by simp only [List.length_append]; omega)
  rw [show ((pre ++ [b]).length : Int) = (pre.length : Int) + 1 from by simp, show pre ++ [b] ++ suf = pre ++ b :: suf from by simp] at h
  refine Ev.step (fun k => ?_) (by simpa using h)
  rw [impl_numbers.l0, if_pos (by omega), if_pos (by omega), if_pos (by simp; omega), rd_mid, impl_putVar_eq]
  simp only [Option.bind_some]
  rw [if_pos (by omega), wrap_id (by omega) (by omega)]
theorem impl_numbers_ev {l : List Int} (hl : l.length ≤ 1000) : Ev (fun k => impl_numbers.f k l) (listB l) := by
 unfold impl_numbers.f listB
 have hv := varB_len (l.length : Int)
 refine ev_bind0 (impl_putVar_eq _) ?_
 have := impl_numbers_l0 l [] (varB l.length) l.length (by simp) (by omega) (by omega)
 simpa using this
theorem impl_packTx_l1 (suf : List S86) : ∀ (pre : List S86) (acc : List Int) (n : Int), n = (pre.length : Int) + suf.length → n ≤ 4 → (∀ y ∈ suf, OutOk y) → acc.length + 45 * suf.length ≤ 100000 →
 Ev (fun k => impl_packTx.l1 k acc (pre ++ suf) n pre.length) (acc ++ (suf.map outB).flatten) := by
 induction suf with
 | nil => intro pre acc n hn _ _ _; subst hn; exact ev_succ (fun k => by rw [impl_packTx.l1, if_neg (by simp)]; simp)
 | cons b suf ih =>
  intro pre acc n hn hp hs hl
  simp only [List.length_cons, Int.natCast_add, Int.natCast_one] at hn hl
  have hb := hs b (by simp)
  have l1 := bigB_len b.f0
  have l2 := listB_len hb.2.1
  have h := ih (pre ++ [b]) (acc ++ (bigB b.f0 ++ listB b.f1)) n (by simp; omega) hp (fun y hy => hs y (by simp [hy])) (by simp only [List.length_append]; omega)
  rw [show ((pre ++ [b]).length : Int) = (pre.length : Int) + 1 from by simp, show pre ++ [b] ++ suf = pre ++ b :: suf from by simp] at h
  refine Ev.step (f := fun k => (impl_numbers.f k b.f1).bind fun t215 => (slices_Concat_byte_byte.f k (([acc, bigB b.f0, t215] : List (List Int)))).bind fun t221 => impl_packTx.l1 k t221 (pre ++ b :: suf) n ((pre.length : Int) + 1)) (fun k => ?_) (ev_bind (impl_numbers_ev (by have := hb.2.1; omega)) (ev_bind (slices_Concat_byte_byte_ev (by simp) (by simp; omega)) (by simpa [outB] using h)))
  rw [impl_packTx.l1, if_pos (by omega), if_pos (by omega), if_pos (by simp; omega), rdO, impl_halves_eq (by have := hb.1; omega) (by have := hb.1; omega), wrap_id (by omega) (by omega)]
  simp only [Option.bind_some]
theorem impl_packTx_l0 (a0 : Int) (i1 : List S34) (o : List S86) (ho : ∀ y ∈ o, OutOk y) (h2 : o.length ≤ 4) (suf : List S34) : ∀ (pre : List S34) (acc : List Int) (n : Int), n = (pre.length : Int) + suf.length → n ≤ 4 → (∀ x ∈ suf, InOk x) → acc.length + 36 * suf.length ≤ 10000 →
 Ev (fun k => impl_packTx.l0 k acc (pre ++ suf) n pre.length a0 i1 o) (acc ++ ((suf.map (inB true)).flatten ++ (varB o.length ++ (o.map outB).flatten))) := by
 induction suf with
 | nil =>
  intro pre acc n hn _ _ hl
  subst hn
  have hv := varB_len (o.length : Int)
  have h := impl_packTx_l1 o [] (acc ++ varB o.length) o.length (by simp) (by omega) ho (by simp only [List.length_append]; omega)
  refine Ev.step (f := fun k => impl_packTx.l1 k (acc ++ varB o.length) o o.length 0) (fun k => ?_) (by simpa using h)
  rw [impl_packTx.l0, if_neg (by simp), impl_putVar_eq]
  simp only [Option.bind_some]
  rw [if_pos (by omega)]
 | cons b suf ih =>
  intro pre acc n hn hp hs hl
  simp only [List.length_cons, Int.natCast_add, Int.natCast_one] at hn hl
  have hb := hs b (by simp)
  have l1 := bigB_len b.f0
  have l2 := listB_len hb.2.2.1
  have l3 := varB_len b.f1
  have h := ih (pre ++ [b]) (acc ++ (bigB b.f0 ++ (varB b.f1 ++ listB b.f2))) n (by simp; omega) hp (fun y hy => hs y (by simp [hy])) (by simp only [List.length_append]; omega)
  rw [show ((pre ++ [b]).length : Int) = (pre.length : Int) + 1 from by simp, show pre ++ [b] ++ suf = pre ++ b :: suf from by simp] at h
  refine Ev.step (f := fun k => (impl_numbers.f k b.f2).bind fun t195 => (slices_Concat_byte_byte.f k (([acc, bigB b.f0, varB b.f1, t195] : List (List Int)))).bind fun t201 => impl_packTx.l0 k t201 (pre ++ b :: suf) n ((pre.length : Int) + 1) a0 i1 o) (fun k => ?_) (ev_bind (impl_numbers_ev (by have := hb.2.2.1; omega)) (ev_bind (slices_Concat_byte_byte_ev (by simp) (by simp; omega)) (by simpa [inB] using h)))
  rw [impl_packTx.l0, if_pos (by omega), if_pos (by omega), if_pos (by simp; omega), rdI, impl_halves_eq (by have := hb.1; omega) (by have := hb.1; omega), wrap_id (by omega) (by omega), impl_putVar_eq]
  simp only [Option.bind_some]
theorem impl_packTx_ev {t : S27} (h : TxOk t) : Ev (fun k => impl_packTx.f k t.f0 t.f1 t.f2) (packB true t) := by
 unfold impl_packTx.f packB
 obtain ⟨h0, h1, h2, hi, ho⟩ := h
 have v1 := varB_len t.f0
 have v2 := varB_len (t.f1.length : Int)
 refine ev_bind0 (impl_putVar_eq _) (ev_bind0 (impl_putVar_eq _) (ev_if (by omega) ?_))
 have := impl_packTx_l0 t.f0 t.f1 t.f2 ho h2.2 t.f1 [] (varB t.f0 ++ varB t.f1.length) t.f1.length (by simp) (by omega) hi (by simp only [List.length_append]; omega)
 simpa using this
def bareIn (x : S34) : S34 := ⟨x.f0, x.f1, []⟩
def bareTx (t : S27) : S27 := ⟨t.f0, t.f1.map bareIn, t.f2⟩
theorem bareIn_ok {x : S34} (h : InOk x) : InOk (bareIn x) := ⟨h.1, h.2.1, by simp [bareIn], by simp [bareIn, AllIn]⟩
theorem bareTx_ok {t : S27} (h : TxOk t) : TxOk (bareTx t) := by
 obtain ⟨h0, h1, h2, hi, ho⟩ := h
 refine ⟨h0, by simpa [bareTx] using h1, h2, fun x hx => ?_, ho⟩
 obtain ⟨y, hy, rfl⟩ := List.mem_map.1 hx
 exact bareIn_ok (hi y hy)
theorem listB_nil : listB [] = [0] := by simp [listB, varB]
theorem packB_bare (t : S27) : packB true (bareTx t) = packB false t := by
 unfold packB bareTx
 simp only [List.length_map, List.map_map]
 have : (inB true ∘ bareIn) = inB false := by funext x; simp [inB, bareIn, listB_nil]
 rw [this]
theorem impl_txSum_l0 {t : S27} (ht : TxOk t) (suf : List S34) : ∀ (pre : List S34) (n : Int), t.f1 = pre ++ suf → n = (pre.length : Int) + suf.length → n ≤ 4 →
 Ev (fun k => impl_txSum.l0 k (pre ++ suf) n pre.length t.f0 (pre.map bareIn) t.f2) (sumB (packB false t)) := by
 induction suf with
 | nil =>
  intro pre n he hn _
  subst hn
  have hp : t.f1.map bareIn = pre.map bareIn := by rw [he]; simp
  have h := impl_packTx_ev (bareTx_ok ht)
  rw [packB_bare] at h
  have hl : (packB false t).length ≤ 1000 := by
   unfold packB
   obtain ⟨h0, h1, h2, hi, ho⟩ := ht
   have v1 := varB_len t.f0
   have v2 := varB_len (t.f1.length : Int)
   have v3 := varB_len (t.f2.length : Int)
   have f1 := flat_len (f := inB false) (n := 36) (l := t.f1) (fun x hx => inB_len (hi x hx))
   have f2 := flat_len (f := outB) (n := 45) (l := t.f2) (fun x hx => outB_len (ho x hx))
   simp only [List.length_append]
   omega
  refine Ev.step (f := fun k => (impl_packTx.f k t.f0 (pre.map bareIn) t.f2).bind fun t231 => (impl_sumOf.f k t231).bind fun t234 => some t234) (fun k => by rw [impl_txSum.l0, if_neg (by simp)]) ?_
  rw [← hp]
  exact ev_bind h (ev_bind (impl_sumOf_ev (packB_bytes _ _) (by omega)) (Ev.now _))
 | cons b suf ih =>
  intro pre n he hn hp
  simp only [List.length_cons, Int.natCast_add, Int.natCast_one] at hn
  have h := ih (pre ++ [b]) n (by rw [he]; simp) (by simp; omega) hp
  rw [show ((pre ++ [b]).length : Int) = (pre.length : Int) + 1 from by simp, show pre ++ [b] ++ suf = pre ++ b :: suf from by simp] at h
  refine Ev.step (fun k => ?_) h
  rw [impl_txSum.l0, if_pos (by omega), if_pos (by omega), if_pos (by simp; omega), if_pos (by simp; omega), rdI, wrap_id (by omega) (by omega)]
  simp [bareIn]
theorem impl_txSum_ev {t : S27} (h : TxOk t) : Ev (fun k => impl_txSum.f k t.f0 t.f1 t.f2) (sumB (packB false t)) := by
 unfold impl_txSum.f
 have h1 := h.2.1
 have := impl_txSum_l0 h t.f1 [] t.f1.length (by simp) (by simp) (by omega)
 simpa using this
def txSumV (t : S27) : Int × Int := if txF t = 0 then (0, sumB (packB false t)) else (txF t, 0)
theorem spec_TxSum_ev {t : S27} (h1 : t.f1.length ≤ 1048576 ∧ ∀ x ∈ t.f1, (x.f2.length : Int) ≤ 1048576) (h2 : t.f2.length ≤ 1048576 ∧ ∀ x ∈ t.f2, (x.f1.length : Int) ≤ 1048576) : Ev (fun k => spec_TxSum.f k t.f0 t.f1 t.f2) (txSumV t) := by
 unfold spec_TxSum.f txSumV
 refine ev_bind (spec_l3Fault_ev h1 h2) ?_
 by_cases h0 : txF t = 0
 · rw [if_pos h0]; exact ev_if h0 (ev_bind (spec_l3Sum_ev (txF_ok h0)) (Ev.now _))
 · rw [if_neg h0]; exact ev_ifn h0 (Ev.now _)
theorem impl_TxSum_ev {t : S27} (h1 : t.f1.length ≤ 1048576 ∧ ∀ x ∈ t.f1, (x.f2.length : Int) ≤ 1048576) (h2 : t.f2.length ≤ 1048576 ∧ ∀ x ∈ t.f2, (x.f1.length : Int) ≤ 1048576) : Ev (fun k => impl_TxSum.f k t.f0 t.f1 t.f2) (txSumV t) := by
 unfold impl_TxSum.f txSumV
 refine ev_bind (impl_TxFault_ev h1 h2) ?_
 by_cases h0 : txF t = 0
 · rw [if_pos h0]; exact ev_if h0 (ev_bind (impl_txSum_ev (txF_ok h0)) (Ev.now _))
 · rw [if_neg h0]; exact ev_ifn h0 (Ev.now _)
theorem rd_byte {c : List Int} (hb : Bytes c) (i : Int) : 0 ≤ rd c i ∧ rd c i ≤ 255 := by
 unfold rd
 rw [List.getD_eq_getElem?_getD]
 cases h : c[i.toNat]? with
 | none => simp
 | some x => exact hb x (List.mem_of_getElem? h)
theorem spec_l1Next_some {c : List Int} (hb : Bytes c) (hc : c.length ≤ 140737488351232) (n m : Int) (h0 : 0 ≤ n) (h1 : n ≤ 1000000) (hm : m ≤ 1000000) :
 ∃ v, spec_l1Next.f c n m = some (v, n + 1) ∧ 0 ≤ v ∧ (1 ≤ m → v < m) ∧ (m < 1 → v = 0) := by
 unfold spec_l1Next.f
 rw [wrap_id (x := n + 1) (by omega) (by omega), wrap_id (x := n + 1 - 1) (by omega) (by omega), show n + 1 - 1 = n by omega]
 by_cases hm1 : m < 1
 · rw [if_pos hm1]; exact ⟨0, rfl, by omega, by omega, fun _ => rfl⟩
 rw [if_neg hm1]
 by_cases hk : (c.length : Int) = 0
 · rw [if_pos hk, if_neg (by omega), wrap_id (x := n * 7) (by omega) (by omega), Int.tmod_eq_emod_of_nonneg (by omega)]
   exact ⟨_, rfl, Int.emod_nonneg _ (by omega), fun _ => Int.emod_lt_of_pos _ (by omega), fun h => absurd h hm1⟩
 rw [if_neg hk]
 have hkp : (0 : Int) < c.length := by omega
 have e1 : Int.tmod n (c.length : Int) = n % (c.length : Int) := Int.tmod_eq_emod_of_nonneg h0
 have e2 : Int.tdiv n (c.length : Int) = n / (c.length : Int) := Int.tdiv_eq_ediv_of_nonneg h0
 have b1 := Int.emod_nonneg n (b := (c.length : Int)) (by omega)
 have b2 := Int.emod_lt_of_pos n hkp
 have b3 : 0 ≤ n / (c.length : Int) := Int.ediv_nonneg h0 (by omega)
 have b4 : n / (c.length : Int) ≤ n := Int.ediv_le_self _ h0
 have r1 := rd_byte hb (n % (c.length : Int))
 rw [e1, e2, if_pos b1, if_pos b2]
 rw [wrap_id (x := rd c (n % (c.length : Int))) (by omega) (by omega), wrap_id (x := n / (c.length : Int)) (by omega) (by omega), wrap_id (x := n / (c.length : Int) * 37) (by omega) (by omega), wrap_id (x := rd c (n % (c.length : Int)) + n / (c.length : Int) * 37) (by omega) (by omega)]
 by_cases h200 : m > 200
 · rw [if_pos h200]
   rw [wrap_id (x := n + 1) (by omega) (by omega)]
   have e3 : Int.tmod (n + 1) (c.length : Int) = (n + 1) % (c.length : Int) := Int.tmod_eq_emod_of_nonneg (by omega)
   have b5 := Int.emod_nonneg (n + 1) (b := (c.length : Int)) (by omega)
   have b6 := Int.emod_lt_of_pos (n + 1) hkp
   have r2 := rd_byte hb ((n + 1) % (c.length : Int))
   rw [e3, if_pos b5, if_pos b6, if_neg (by omega)]
   generalize rd c (n % (c.length : Int)) = x at *
   generalize rd c ((n + 1) % (c.length : Int)) = y at *
   generalize n / (c.length : Int) = z at *
   rw [wrap_id (x := (x + z * 37) * 251) (by omega) (by omega), wrap_id (x := y) (by omega) (by omega), wrap_id (x := y * 13) (by omega) (by omega), wrap_id (x := (x + z * 37) * 251 + y * 13) (by omega) (by omega), wrap_id (x := (x + z * 37) * 251 + y * 13 + n) (by omega) (by omega), Int.tmod_eq_emod_of_nonneg (by omega)]
   exact ⟨_, rfl, Int.emod_nonneg _ (by omega), fun _ => Int.emod_lt_of_pos _ (by omega), fun h => absurd h hm1⟩
 · rw [if_neg h200, if_neg (by omega), Int.tmod_eq_emod_of_nonneg (by omega)]
   exact ⟨_, rfl, Int.emod_nonneg _ (by omega), fun _ => Int.emod_lt_of_pos _ (by omega), fun h => absurd h hm1⟩
theorem rd_mem {l : List Int} {i : Int} (h0 : 0 ≤ i) (h1 : i < l.length) : rd l i ∈ l := by
 rw [rd_at h0 h1]; exact List.getElem_mem _
theorem spec_l1Pick_some {c : List Int} (hb : Bytes c) (hc : c.length ≤ 140737488351232) (n : Int) (h0 : 0 ≤ n) (h1 : n ≤ 1000000) (l : List Int) (hl : 1 ≤ l.length) (hl2 : l.length ≤ 1000) :
 ∃ v, v ∈ l ∧ spec_l1Pick.f c n l = some (v, n + 1) := by
 unfold spec_l1Pick.f
 obtain ⟨j, hj, j0, j1, _⟩ := spec_l1Next_some hb hc n (l.length : Int) h0 h1 (by omega)
 rw [hj]
 simp only [Option.bind_some]
 rw [if_pos j0, if_pos (j1 (by omega))]
 exact ⟨_, rd_mem j0 (j1 (by omega)), rfl⟩
theorem spec_l2Key_eq (a : Int) : spec_l2Key.f a = some (decide (0 ≤ a ∧ a ≤ 899)) := by
 unfold spec_l2Key.f; rw [spec_l1In_eq]; rfl
theorem drawKey_some {c : List Int} (hb : Bytes c) (hc : c.length ≤ 140737488351232) (n : Int) (h0 : 0 ≤ n) (h1 : n ≤ 1000000) : ∃ v, 0 ≤ v ∧ v ≤ 899 ∧ spec_l2DrawKey.f c n = some (v, n + 1) := by
 unfold spec_l2DrawKey.f
 obtain ⟨v, hm, hv⟩ := spec_l1Pick_some hb hc n h0 h1 [1, 2, 3, 899] (by simp) (by simp)
 simp only [List.mem_cons, List.not_mem_nil, or_false] at hm
 exact ⟨v, by omega, by omega, by rw [hv]; rfl⟩
theorem drawPair {a b : Int} (ha : 0 ≤ a ∧ a ≤ 899) (hb : 0 ≤ b ∧ b ≤ 899) : Ev (fun k => spec_PairLock.f k a b) (0, [100 + a, 8, 6, 100 + b, 8]) := by
 unfold spec_PairLock.f
 refine ev_bind0 (spec_l2Key_eq _) (ev_if (by simpa using ha) (ev_bind0 (spec_l2Key_eq _) ?_))
 refine ev_succ (fun k => ?_)
 rw [spec_PairLock.j0, if_neg (by simpa using hb)]
 unfold spec_l2KeyLock.f
 rw [wrap_id (by omega) (by omega), wrap_id (by omega) (by omega)]
 simp
theorem drawLater {a b : Int} (ha : 0 ≤ a ∧ a ≤ 899) (hb : 0 ≤ b ∧ b ≤ 999) : spec_LaterLock.f a b = some (0, [100 + b, 9, 100 + a, 8]) := by
 unfold spec_LaterLock.f spec_l2KeyLock.f
 rw [spec_l2Key_eq]
 simp only [Option.bind_some, decide_eq_true_eq]
 rw [if_pos ha, spec_l1In_eq]
 simp only [Option.bind_some, decide_eq_true_eq]
 rw [if_pos hb, wrap_id (by omega) (by omega), wrap_id (by omega) (by omega)]
 simp
theorem spec_l2Draw_l0 {c : List Int} (hb : Bytes c) (hc : c.length ≤ 140737488351232) : ∀ (d : Nat) (out : List Int) (n : Int), 0 ≤ n → n + d ≤ 900020 → out.length + d ≤ 12 →
 ∃ r, Ev (fun k => spec_l2Draw.l0 k out d c n) (r, n + d) ∧ r.length ≤ 12
 | 0, out, n, h0, h1, h2 => ⟨out, ev_succ (fun k => by rw [spec_l2Draw.l0, if_neg (by omega)]; simp), by omega⟩
 | d + 1, out, n, h0, h1, h2 => by
  obtain ⟨v, _, hv⟩ := spec_l1Pick_some hb hc n h0 (by omega) [1, 2, 3, 4, 5, 6, 7, 8, 9, 100, 101, 103, 1099] (by simp) (by simp)
  obtain ⟨r, hr, hl⟩ := spec_l2Draw_l0 hb hc d (out ++ [v]) (n + 1) (by omega) (by omega) (by simp; omega)
  rw [show n + 1 + (d : Int) = n + ((d + 1 : Nat) : Int) by omega] at hr
  refine ⟨r, Ev.step (fun k => ?_) hr, hl⟩
  rw [spec_l2Draw.l0, if_pos (by omega), hv]
  simp only [Option.bind_some]
  rw [if_pos (by omega), wrap_id (by omega) (by omega)]
  congr 1
  omega
theorem spec_l2Draw_j0 {c : List Int} (hb : Bytes c) (hc : c.length ≤ 140737488351232) (x : Int) (b : Bool) (n : Int) (h0 : 0 ≤ n) (h1 : n ≤ 900000) :
 ∃ r n', Ev (fun k => spec_l2Draw.j0 k x b c n) (r, n') ∧ r.length ≤ 12 ∧ 0 ≤ n' ∧ n' ≤ n + 12 := by
 obtain ⟨v, v0, v1, hv⟩ := drawKey_some hb hc n h0 (by omega)
 cases b with
 | true =>
  refine ⟨[wrap64 (100 + v), 8], n + 1, Ev.step (fun k => by rw [spec_l2Draw.j0]) (ev_if rfl (ev_bind0 hv (ev_bind0 rfl (Ev.now _)))), by simp, by omega, by omega⟩
 | false =>
  by_cases h2 : x = 2
  · obtain ⟨u, u0, u1, hu⟩ := drawKey_some hb hc (n + 1) (by omega) (by omega)
    exact ⟨[100 + v, 8, 6, 100 + u, 8], n + 1 + 1, Ev.step (fun k => by rw [spec_l2Draw.j0]) (ev_ifn (by decide) (ev_if h2 (ev_bind0 hv (ev_bind0 hu (ev_bind (drawPair ⟨v0, v1⟩ ⟨u0, u1⟩) (Ev.now _)))))), by simp, by omega, by omega⟩
  by_cases h3 : x = 3
  · obtain ⟨u, hu, u0, u1, _⟩ := spec_l1Next_some hb hc (n + 1) 6 (by omega) (by omega) (by omega)
    have u2 := u1 (by omega)
    exact ⟨[100 + u, 9, 100 + v, 8], n + 1 + 1, Ev.step (fun k => by rw [spec_l2Draw.j0]) (ev_ifn (by decide) (ev_ifn h2 (ev_if h3 (ev_bind0 hv (ev_bind0 hu (ev_bind0 (drawLater ⟨v0, v1⟩ ⟨u0, by omega⟩) (Ev.now _))))))), by simp, by omega, by omega⟩
  · obtain ⟨u, hu, u0, u1, _⟩ := spec_l1Next_some hb hc n 8 (by omega) (by omega) (by omega)
    have u2 := u1 (by omega)
    obtain ⟨r, hr, hl⟩ := spec_l2Draw_l0 hb hc u.toNat [] (n + 1) (by omega) (by omega) (by simp; omega)
    rw [Int.toNat_of_nonneg (by omega)] at hr
    exact ⟨r, n + 1 + u, Ev.step (fun k => by rw [spec_l2Draw.j0]) (ev_ifn (by decide) (ev_ifn h2 (ev_ifn h3 (ev_bind0 hu hr)))), hl, by omega, by omega⟩
theorem spec_l2Draw_ev {c : List Int} (hb : Bytes c) (hc : c.length ≤ 140737488351232) (n : Int) (h0 : 0 ≤ n) (h1 : n ≤ 800000) :
 ∃ r n', Ev (fun k => spec_l2Draw.f k c n) (r, n') ∧ r.length ≤ 12 ∧ 0 ≤ n' ∧ n' ≤ n + 13 := by
 obtain ⟨x, hx, x0, x1, _⟩ := spec_l1Next_some hb hc n 5 h0 (by omega) (by omega)
 unfold spec_l2Draw.f
 by_cases hx0 : x = 0
 · obtain ⟨r, n', hr, hl, hn, hn'⟩ := spec_l2Draw_j0 hb hc x (x == 0) (n + 1) (by omega) (by omega)
   exact ⟨r, n', ev_bind0 hx (ev_if hx0 hr), hl, hn, by omega⟩
 · obtain ⟨r, n', hr, hl, hn, hn'⟩ := spec_l2Draw_j0 hb hc x (x == 1) (n + 1) (by omega) (by omega)
   exact ⟨r, n', ev_bind0 hx (ev_ifn hx0 hr), hl, hn, by omega⟩
theorem spec_l2Bent_ev {c : List Int} (hb : Bytes c) (hc : c.length ≤ 140737488351232) (n : Int) (h0 : 0 ≤ n) (h1 : n ≤ 700000) :
 ∃ r n', Ev (fun k => spec_l2Bent.f k c n) (r, n') ∧ r.length ≤ 13 ∧ 0 ≤ n' ∧ n' ≤ n + 20 := by
 unfold spec_l2Bent.f
 obtain ⟨r, n1, hr, hl, hn, hn'⟩ := spec_l2Draw_ev hb hc n h0 (by omega)
 obtain ⟨x, hx, x0, x1, _⟩ := spec_l1Next_some hb hc n1 12 hn (by omega) (by omega)
 by_cases e0 : x = 0
 · obtain ⟨v, _, hv⟩ := spec_l1Pick_some hb hc (n1 + 1) (by omega) (by omega) [0, 10, 99, 1100] (by simp) (by simp)
   exact ⟨r ++ [v], n1 + 1 + 1, ev_bind hr (ev_bind0 hx (ev_if e0 (ev_bind0 hv (ev_if (show r.length < 17592186044416 by omega) (Ev.now _))))), by simp; omega, by omega, by omega⟩
 by_cases e1 : x = 1
 · exact ⟨List.replicate 13 0, n1 + 1, ev_bind hr (ev_bind0 hx (ev_ifn e0 (ev_if e1 (ev_if (by omega) (Ev.now _))))), by simp, by omega, by omega⟩
 · exact ⟨r, n1 + 1, ev_bind hr (ev_bind0 hx (ev_ifn e0 (ev_ifn e1 (Ev.now _)))), by omega, by omega, by omega⟩
def TxSz (t : S27) : Prop := (t.f1.length ≤ 1048576 ∧ ∀ x ∈ t.f1, (x.f2.length : Int) ≤ 1048576) ∧ (t.f2.length ≤ 1048576 ∧ ∀ x ∈ t.f2, (x.f1.length : Int) ≤ 1048576)
theorem spec_l3Draw_l1 {c : List Int} (hb : Bytes c) (hc : c.length ≤ 140737488351232) (a : Int) (is : List S34) : ∀ (d : Nat) (os : List S86) (n : Int), 0 ≤ n → n + 20 * d ≤ 600000 → os.length + d ≤ 100 → (∀ y ∈ os, y.f1.length ≤ 13) →
 ∃ r n', Ev (fun k => spec_l3Draw.l1 k d c n a is os) (a, is, r, n') ∧ (∀ y ∈ r, y.f1.length ≤ 13) ∧ r.length = os.length + d ∧ 0 ≤ n' ∧ n' ≤ n + 20 * d
 | 0, os, n, h0, h1, h2, h3 => ⟨os, n, ev_succ (fun k => by rw [spec_l3Draw.l1, if_neg (by omega)]), h3, by omega, by omega, by omega⟩
 | d + 1, os, n, h0, h1, h2, h3 => by
  obtain ⟨v, _, hv⟩ := spec_l1Pick_some hb hc n h0 (by omega) [1, 50, 70000] (by simp) (by simp)
  obtain ⟨l, n1, hl, hl12, hn, hn'⟩ := spec_l2Draw_ev hb hc (n + 1) (by omega) (by omega)
  obtain ⟨r, n', hr, hr1, hr2, hr3, hr4⟩ := spec_l3Draw_l1 hb hc a is d (os ++ [⟨v, l⟩]) n1 hn (by omega) (by simp; omega) (fun y hy => by
   rcases List.mem_append.1 hy with hy | hy
   · exact h3 y hy
   · simp at hy; subst hy; simp only []; omega)
  refine ⟨r, n', Ev.step (fun k => by rw [spec_l3Draw.l1]) (ev_if (by omega) (ev_bind0 hv (ev_bind hl (ev_if (show os.length < 4398046511104 by omega) ?_)))), hr1, by rw [hr2]; simp; omega, hr3, by omega⟩
  simp only []
  rw [wrap_id (by omega) (by omega), show ((d + 1 : Nat) : Int) - 1 = d by omega]
  exact hr
theorem spec_l3Draw_l0 {c : List Int} (hb : Bytes c) (hc : c.length ≤ 140737488351232) (a : Int) : ∀ (d : Nat) (is : List S34) (n : Int), 0 ≤ n → n + 20 * d ≤ 500000 → is.length + d ≤ 100 → (∀ y ∈ is, y.f2.length ≤ 13) →
 ∃ r o n', Ev (fun k => spec_l3Draw.l0 k d c n a is) (a, r, o, n') ∧ (∀ y ∈ r, y.f2.length ≤ 13) ∧ r.length ≤ 100 ∧ (∀ y ∈ o, y.f1.length ≤ 13) ∧ (1 ≤ o.length ∧ o.length ≤ 4) ∧ 0 ≤ n' ∧ n' ≤ n + 20 * d + 100
 | 0, is, n, h0, h1, h2, h3 => by
  obtain ⟨x, hx, x0, x1, _⟩ := spec_l1Next_some hb hc n 3 h0 (by omega) (by omega)
  have x2 := x1 (by omega)
  obtain ⟨r, n', hr, hr1, hr2, hr3, hr4⟩ := spec_l3Draw_l1 hb hc a is (1 + x).toNat [] (n + 1) (by omega) (by omega) (by simp; omega) (by simp)
  rw [Int.toNat_of_nonneg (by omega)] at hr
  simp only [List.length_nil] at hr2
  refine ⟨is, r, n', Ev.step (fun k => by rw [spec_l3Draw.l0]) (ev_ifn (by omega) (ev_bind0 hx ?_)), h3, by omega, hr1, by omega, hr3, by omega⟩
  simp only []
  rw [wrap_id (by omega) (by omega)]
  exact hr
 | d + 1, is, n, h0, h1, h2, h3 => by
  obtain ⟨v, _, hv⟩ := spec_l1Pick_some hb hc n h0 (by omega) [7, 70000, 2147483646] (by simp) (by simp)
  obtain ⟨x, hx, x0, x1, _⟩ := spec_l1Next_some hb hc (n + 1) 1000 (by omega) (by omega) (by omega)
  obtain ⟨r, o, n', hr, hr1, hr2, hr3, hr4, hr5, hr6⟩ := spec_l3Draw_l0 hb hc a d (is ++ [⟨v, is.length, [x]⟩]) (n + 1 + 1) (by omega) (by omega) (by simp; omega) (fun y hy => by
   rcases List.mem_append.1 hy with hy | hy
   · exact h3 y hy
   · simp at hy; subst hy; simp)
  refine ⟨r, o, n', Ev.step (fun k => by rw [spec_l3Draw.l0]) (ev_if (by omega) (ev_bind0 hv (ev_bind0 hx (ev_if (show is.length < 3518437208883 by omega) ?_)))), hr1, hr2, hr3, hr4, hr5, by omega⟩
  simp only []
  rw [wrap_id (by omega) (by omega), show ((d + 1 : Nat) : Int) - 1 = d by omega]
  exact hr
theorem spec_l3Draw_ev {c : List Int} (hb : Bytes c) (hc : c.length ≤ 140737488351232) (n : Int) (h0 : 0 ≤ n) (h1 : n ≤ 400000) :
 ∃ a r o n', Ev (fun k => spec_l3Draw.f k c n) (a, r, o, n') ∧ (∀ y ∈ r, y.f2.length ≤ 13) ∧ r.length ≤ 100 ∧ (∀ y ∈ o, y.f1.length ≤ 13) ∧ (1 ≤ o.length ∧ o.length ≤ 4) ∧ 0 ≤ n' ∧ n' ≤ n + 200 := by
 unfold spec_l3Draw.f
 obtain ⟨v, _, hv⟩ := spec_l1Pick_some hb hc n h0 (by omega) [0, 5, 300, 65535] (by simp) (by simp)
 obtain ⟨x, hx, x0, x1, _⟩ := spec_l1Next_some hb hc (n + 1) 3 (by omega) (by omega) (by omega)
 have x2 := x1 (by omega)
 obtain ⟨r, o, n', hr, hr1, hr2, hr3, hr4, hr5, hr6⟩ := spec_l3Draw_l0 hb hc v x.toNat [] (n + 1 + 1) (by omega) (by omega) (by simp; omega) (by simp)
 rw [Int.toNat_of_nonneg (by omega)] at hr
 exact ⟨v, r, o, n', ev_bind0 hv (ev_bind0 hx hr), hr1, hr2, hr3, hr4, hr5, by omega⟩
theorem spec_l3Bent_ev {c : List Int} (hb : Bytes c) (hc : c.length ≤ 140737488351232) (n : Int) (h0 : 0 ≤ n) (h1 : n ≤ 400000) :
 ∃ a r o n', Ev (fun k => spec_l3Bent.f k c n) (a, r, o, n') ∧ TxSz ⟨a, r, o⟩ := by
 unfold spec_l3Bent.f
 obtain ⟨a, r, o, n1, hd, hr, hrl, ho, hol, hn, hn'⟩ := spec_l3Draw_ev hb hc n h0 h1
 have R : r.length ≤ 1048576 ∧ ∀ x ∈ r, (x.f2.length : Int) ≤ 1048576 := ⟨by omega, fun x hx => by have := hr x hx; omega⟩
 have O : o.length ≤ 1048576 ∧ ∀ x ∈ o, (x.f1.length : Int) ≤ 1048576 := ⟨by omega, fun x hx => by have := ho x hx; omega⟩
 obtain ⟨x, hx, x0, x1, _⟩ := spec_l1Next_some hb hc n1 14 hn (by omega) (by omega)
 have x2 := x1 (by omega)
 have o0 : (rd_T86 o 0).f1.length ≤ 13 := by
  cases o with
  | nil => simp at hol
  | cons y ys => exact ho y (by simp)
 have set0 : ∀ y : S86, y.f1.length ≤ 13 → (o.set (0 : Int).toNat y).length ≤ 1048576 ∧ ∀ z ∈ o.set (0 : Int).toNat y, (z.f1.length : Int) ≤ 1048576 := fun y hy => ⟨by rw [List.length_set]; omega, fun z hz => by
  rcases List.mem_or_eq_of_mem_set hz with h | h
  · have := ho z h; omega
  · subst h; omega⟩
 by_cases e0 : x = 0
 · obtain ⟨v, _, hv⟩ := spec_l1Pick_some hb hc (n1 + 1) (by omega) (by omega) [-1, 65536] (by simp) (by simp)
   exact ⟨v, r, o, _, ev_bind hd (ev_bind0 hx (ev_if e0 (ev_bind0 hv (Ev.now _)))), R, O⟩
 by_cases e1 : x = 1
 · obtain ⟨v, _, hv⟩ := spec_l1Pick_some hb hc (n1 + 1) (by omega) (by omega) [-1, 1000000, 1000001] (by simp) (by simp)
   exact ⟨a, r, _, _, ev_bind hd (ev_bind0 hx (ev_ifn e0 (ev_if e1 (ev_bind0 hv (ev_if (show 0 < (o.length : Int) by omega) (Ev.now _)))))), R, set0 _ o0⟩
 by_cases e2 : x = 2
 · obtain ⟨l, n2, hl, hl13, _, _⟩ := spec_l2Bent_ev hb hc (n1 + 1) (by omega) (by omega)
   exact ⟨a, r, _, _, ev_bind hd (ev_bind0 hx (ev_ifn e0 (ev_ifn e1 (ev_if e2 (ev_bind hl (ev_if (show 0 < (o.length : Int) by omega) (Ev.now _))))))), R, set0 _ hl13⟩
 by_cases e3 : x = 3
 · obtain ⟨u, _, hu⟩ := spec_l1Pick_some hb hc (n1 + 1) (by omega) (by omega) [7, -1] (by simp) (by simp)
   obtain ⟨v, _, hv⟩ := spec_l1Pick_some hb hc (n1 + 1 + 1) (by omega) (by omega) [0, 4] (by simp) (by simp)
   obtain ⟨w, _, hw⟩ := spec_l1Pick_some hb hc (n1 + 1 + 1 + 1) (by omega) (by omega) [0, 10000] (by simp) (by simp)
   refine ⟨a, r ++ [⟨u, v, [w]⟩], o, _, ev_bind hd (ev_bind0 hx (ev_ifn e0 (ev_ifn e1 (ev_ifn e2 (ev_if e3 (ev_bind0 hu (ev_bind0 hv (ev_bind0 hw (ev_if (show r.length < 3518437208883 by omega) (Ev.now _)))))))))), ⟨by simp; omega, fun y hy => ?_⟩, O⟩
   rcases List.mem_append.1 hy with hy | hy
   · exact R.2 y hy
   · simp at hy; subst hy; simp
 by_cases e4 : x = 4
 · exact ⟨a, r, [], _, ev_bind hd (ev_bind0 hx (ev_ifn e0 (ev_ifn e1 (ev_ifn e2 (ev_ifn e3 (ev_if e4 (Ev.now _))))))), R, by simp⟩
 by_cases e5 : x = 5
 · obtain ⟨v, hvm, hv⟩ := spec_l1Pick_some hb hc (n1 + 1) (by omega) (by omega) [2, 5] (by simp) (by simp)
   simp only [List.mem_cons, List.not_mem_nil, or_false] at hvm
   refine ⟨a, List.replicate v.toNat z34, o, _, ev_bind hd (ev_bind0 hx (ev_ifn e0 (ev_ifn e1 (ev_ifn e2 (ev_ifn e3 (ev_ifn e4 (ev_if e5 (ev_bind0 hv (ev_if (show 0 ≤ v by omega) (ev_if (show v.toNat ≤ 7036874417766 by omega) (Ev.now _))))))))))), ⟨by rw [List.length_replicate]; omega, fun y hy => ?_⟩, O⟩
   obtain ⟨_, rfl⟩ := List.mem_replicate.1 hy
   simp [z34]
 · exact ⟨a, r, o, _, ev_bind hd (ev_bind0 hx (ev_ifn e0 (ev_ifn e1 (ev_ifn e2 (ev_ifn e3 (ev_ifn e4 (ev_ifn e5 (Ev.now _)))))))), R, O⟩
theorem inF_bare (p : List S34) (x : S34) (h : inF p x = 0) : inF (p.map bareIn) (bareIn x) = 0 := by
 unfold inF at h ⊢
 have e1 : inBad (bareIn x) = inBad x := rfl
 have e2 : (p.map bareIn).any (sameIn (bareIn x)) = p.any (sameIn x) := by rw [List.any_map]; rfl
 have e3 : decide (AllIn (bareIn x).f2 0 9999) = true := by simp [bareIn, AllIn]
 rw [e1, e2, if_pos e3]
 split at h
 · omega
 · rename_i h0
   rw [if_neg h0, if_neg (by simp [bareIn])]
   split at h
   · omega
   · split at h
     · exact h
     · omega
theorem insF_bare (s : List S34) : ∀ (p : List S34) (e : Int), insF p s e = 0 → insF (p.map bareIn) (s.map bareIn) e = 0 := by
 induction s with
 | nil => intro p e h; exact h
 | cons x s ih =>
  intro p e h
  unfold insF at h
  rw [List.map_cons]
  unfold insF
  by_cases hx : inF p x = 0
  · rw [if_pos hx] at h
    rw [if_pos (inF_bare p x hx)]
    have := ih _ _ h
    rwa [List.map_append] at this
  · rw [if_neg hx] at h; exact absurd h hx
theorem txF_bare {t : S27} (h : txF t = 0) : txF (bareTx t) = 0 := by
 unfold txF at h ⊢
 split at h
 · rename_i h1
   split at h
   · omega
   · rename_i h2
     rw [if_pos (show 0 ≤ (bareTx t).f0 ∧ (bareTx t).f0 ≤ 65535 from h1), if_neg (by simpa [bareTx] using h2)]
     exact insF_bare _ [] _ h
 · omega
theorem bareTx_sz {t : S27} (h : TxSz t) : TxSz (bareTx t) := by
 refine ⟨⟨by simpa [bareTx] using h.1.1, fun x hx => ?_⟩, h.2⟩
 obtain ⟨y, _, rfl⟩ := List.mem_map.1 hx
 simp [bareIn]
theorem packTx_ev {t : S27} (h : TxSz t) (h0 : txF t = 0) : Ev (fun k => impl_PackTx.f k t.f0 t.f1 t.f2) (0, packB true t) := by
 unfold impl_PackTx.f
 exact ev_bind (impl_TxFault_ev h.1 h.2) (ev_if h0 (ev_bind (impl_packTx_ev (txF_ok h0)) (Ev.now _)))
theorem sumOf_ev {l : List Int} (hb : Bytes l) (hl : l.length ≤ 1000) : Ev (fun k => impl_SumOf.f k l) (0, sumB l) := by
 unfold impl_SumOf.f
 exact ev_ifn (by omega) (ev_bind (impl_sumOf_ev hb (by omega)) (Ev.now _))
theorem laws_FnNames_l0 {t : S27} (ht : TxSz t) (hf : txF t = 0) (suf : List S34) : ∀ (pre : List S34), t.f1 = pre ++ suf →
 Ev (fun k => laws_FnNames.l0 k pre.length t.f0 t.f1 t.f2 0 (sumB (packB false t)) t.f0 (pre.map bareIn) t.f2) true := by
 have hl := (txF_ok hf).2.1
 induction suf with
 | nil =>
  intro pre he
  have hp : t.f1.map bareIn = pre.map bareIn := by rw [he]; simp
  have hb := bareTx_sz ht
  have hf' := txF_bare hf
  have s1 := impl_TxSum_ev hb.1 hb.2
  have e1 : txSumV (bareTx t) = (0, sumB (packB false t)) := by
   unfold txSumV; rw [if_pos hf', ← packB_bare, ← packB_bare]
   have : bareTx (bareTx t) = bareTx t := by simp [bareTx, bareIn]
   rw [this]
  rw [e1] at s1
  have s2 := packTx_ev hb hf'
  rw [packB_bare] at s2
  have s3 := sumOf_ev (packB_bytes false t) (packB_len false (txF_ok hf))
  have s4 := spec_TxSum_ev ht.1 ht.2
  have e4 : txSumV t = (0, sumB (packB false t)) := by unfold txSumV; rw [if_pos hf]
  rw [e4] at s4
  have s5 := impl_TxFault_ev ht.1 ht.2
  rw [hf] at s5
  refine Ev.step (fun k => by rw [laws_FnNames.l0]) (ev_ifn (by rw [he]; simp) ?_)
  rw [← hp]
  exact ev_bind s1 (ev_if rfl (ev_if rfl (ev_bind s2 (ev_bind s3 (ev_if rfl (ev_bind s4 (ev_if rfl (ev_bind s5 (Ev.now _)))))))))
 | cons b suf ih =>
  intro pre he
  have h := ih (pre ++ [b]) (by rw [he]; simp)
  have hl' : pre.length + suf.length + 1 ≤ 4 := by rw [he] at hl; simp at hl; omega
  rw [show ((pre ++ [b]).length : Int) = (pre.length : Int) + 1 from by simp] at h
  refine Ev.step (fun k => ?_) h
  rw [laws_FnNames.l0, if_pos (by rw [he]; simp; omega), if_pos (by omega), if_pos (by simp; omega)]
  conv => lhs; arg 9; rw [he, rdI]
  rw [wrap_id (by omega) (by omega)]
  simp [bareIn]
theorem FnNames : laws_FnNames.Pure := by
 intro c hc _ hw
 have hb : Bytes c := fun x hx => wf8 (hw x hx)
 have hc : c.length ≤ 140737488351232 := by unfold maxLen at hc; omega
 refine Ev.rounds (g := fun k => laws_FnNames.f k c) ?_
 unfold laws_FnNames.f
 refine ev_bind0 rfl ?_
 by_cases hbig : (c.length : Int) > 1048576
 · exact ev_if (by simpa using hbig) (Ev.now _)
 refine ev_ifn (by simpa using hbig) ?_
 obtain ⟨a, r, o, n', hd, ht⟩ := spec_l3Bent_ev hb hc 0 (by omega) (by omega)
 have hdr : Ev (fun k => spec_DrawTxSum.f k c) (a, r, o) := by
  unfold spec_DrawTxSum.f
  exact ev_bind0 rfl (ev_bind hd (Ev.now _))
 have s1 := impl_TxSum_ev ht.1 ht.2
 have s2 := spec_TxSum_ev ht.1 ht.2
 refine ev_bind hdr (ev_bind s1 ?_)
 by_cases h0 : (txSumV ⟨a, r, o⟩).1 = 0
 · refine ev_if h0 ?_
   have hf : txF ⟨a, r, o⟩ = 0 := by
    unfold txSumV at h0
    split at h0
    · assumption
    · exact h0
   have e : txSumV ⟨a, r, o⟩ = (0, sumB (packB false ⟨a, r, o⟩)) := by unfold txSumV; rw [if_pos hf]
   rw [e]
   have := laws_FnNames_l0 ht hf r [] rfl
   simpa using this
 · refine ev_ifn h0 (ev_bind s2 ?_)
   simp only [beq_self_eq_true]
   exact Ev.now _
end Go.Proofs.Ythjlbpgiaehjnaa.Pure
