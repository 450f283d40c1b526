/- for all lists of values a and b that are not too long, SameVals answers as the reference does and leaves its arguments as they were. -/
import Derived.Test.YtmjmcgheeljieaaQFnExactSameValsx1
import Derived.Test.YtmjmcgheeljieaaQFnExactSameValsx2
import Derived.Test.YtmjmcgheeljieaaQFnExactSameValsx3
import Derived.Test.YtmjmcgheeljieaaQFnExactSameValsx1
import Derived.Test.YtmjmcgheeljieaaQFnExactSameValsx2
import Derived.Test.YtmjmcgheeljieaaQFnExactSameValsx3
import Derived.Test.YtmjmcgheeljieaaQFnExactSameValsx1
import Derived.Test.YtmjmcgheeljieaaQFnExactSameValsx2
import Derived.Test.YtmjmcgheeljieaaQFnExactSameValsx3
import Derived.Test.YtmjmcgheeljieaaQFnExactSameValsx1
import Derived.Test.YtmjmcgheeljieaaQFnExactSameValsx2
import Derived.Test.YtmjmcgheeljieaaQFnExactSameValsx3
import Derived.Test.YtmjmcgheeljieaaQFnExactSameValsx1
import Derived.Test.YtmjmcgheeljieaaQFnExactSameValsx2
import Derived.Test.YtmjmcgheeljieaaQFnExactSameValsx3
import Derived.Test.YtmjmcgheeljieaaQFnExactSameValsx1
import Derived.Test.YtmjmcgheeljieaaQFnExactSameValsx2
import Derived.Test.YtmjmcgheeljieaaQFnExactSameValsx3
import Derived.Test.YtmjmcgheeljieaaQFnExactSameValsx1
import Derived.Test.YtmjmcgheeljieaaQFnExactSameValsx2
import Derived.Test.YtmjmcgheeljieaaQFnExactSameValsx3
import Derived.Test.YtmjmcgheeljieaaQFnExactSameValsx1
import Derived.Test.YtmjmcgheeljieaaQFnExactSameValsx2
import Derived.Test.YtmjmcgheeljieaaQFnExactSameValsx3
import Derived.Test.YtmjmcgheeljieaaQFnExactSameValsx1
import Derived.Test.YtmjmcgheeljieaaQFnExactSameValsx2
import Derived.Test.YtmjmcgheeljieaaQFnExactSameValsx3
import Derived.Test.YtmjmcgheeljieaaRFnExactSameVals
namespace Go.Proofs.Ytmjmcgheeljieaa.Pure
open Go.RowKit Go.Proofs.Ytmjmcgheeljieaa.QFnExactSameVals Go.Proofs.YtmjmcgheeljieaaW.PrintWords Go.Proofs.YtmjmcgheeljieaaW.PrintLast
set_option linter.unusedVariables false
set_option linter.unusedSimpArgs false

theorem wrap_id {x : Int} (h1 : -9223372036854775808 ≤ x) (h2 : x ≤ 9223372036854775807) : wrap64 x = x := by
  unfold wrap64; omega
theorem wf64 {x : Int} (h : (Lit.int .i64 x).wf = true) : -9223372036854775808 ≤ x ∧ x ≤ 9223372036854775807 := by
  simpa [Lit.wf, IntKind.min, IntKind.max, IntKind.signed, IntKind.bits] using h
theorem wf8 {x : Int} (h : (Lit.int .u8 x).wf = true) : 0 ≤ x ∧ x ≤ 255 := by
  simpa [Lit.wf, IntKind.min, IntKind.max, IntKind.signed, IntKind.bits] using h
theorem ev_some {α : Type} {g : Nat → Option α} {r : α} (h : ∀ k, g k = some r) : Ev g r := ⟨0, fun k _ => h k⟩
theorem ev_succ {α : Type} {g : Nat → Option α} {r : α} (h : ∀ k, g (k + 1) = some r) : Ev g r := Ev.step h (Ev.now r)
/-- A call whose answer is known, and what follows. -/
theorem ev_bind {α β : Type} {g : Nat → Option α} {f : α → Nat → Option β} {a : α} {r : β} (h : Ev g a) (k : Ev (f a) r) : Ev (fun n => (g n).bind fun t => f t n) r :=
  Ev.bind (f := fun n t => f t n) h k
theorem ev_if {α : Type} {p : Prop} [Decidable p] {g f : Nat → Option α} {r : α} (hp : p) (k : Ev g r) : Ev (fun n => if p then g n else f n) r :=
  Ev.congr (fun n => if_pos hp) k
theorem ev_ifn {α : Type} {p : Prop} [Decidable p] {g f : Nat → Option α} {r : α} (hp : ¬ p) (k : Ev f r) : Ev (fun n => if p then g n else f n) r :=
  Ev.congr (fun n => if_neg hp) k
theorem ev_bind0 {α β : Type} {g : Option α} {f : α → Nat → Option β} {a : α} {r : β} (h : g = some a) (k : Ev (f a) r) : Ev (fun n => g.bind fun t => f t n) r := by
  subst h; exact k
theorem rd_mid (pre : List Int) (b : Int) (suf : List Int) : rd (pre ++ b :: suf) (pre.length : Int) = b := by
  unfold rd
  simp
theorem rd_at {l : List Int} {i : Int} (h0 : 0 ≤ i) (h1 : i < l.length) : rd l i = l[i.toNat]'(by omega) := by
  unfold rd
  rw [List.getD_eq_getElem?_getD, List.getElem?_eq_getElem (by omega)]; rfl
theorem split_at_len {α : Type} (l : List α) (n : Nat) (h : n ≤ l.length) : ∃ pre suf, l = pre ++ suf ∧ pre.length = n :=
  ⟨l.take n, l.drop n, (List.take_append_drop n l).symm, by simp; omega⟩

theorem laws_szVal_some (a b : Int) (s : ByteArray) (q : Int) (h0 : 0 ≤ q) (h1 : q ≤ 1048576) (hs : s.size ≤ maxLen) : ∃ r, laws_szVal.f a b s q = some r ∧ r ≤ q ∧ (0 ≤ r → (s.size : Int) ≤ q) := by
  unfold laws_szVal.f
  unfold maxLen at hs
  rw [wrap_id (by omega) (by omega)]
  by_cases h : q - (s.size : Int) < 0
  · rw [if_pos h]; exact ⟨-1, rfl, by omega, by omega⟩
  · rw [if_neg h]; exact ⟨_, rfl, by omega, by omega⟩
theorem laws_szValS_l0 (suf : List S70) : ∀ (pre : List S70) (q : Int), 0 ≤ q → q ≤ 1048576 → (∀ x ∈ suf, x.f2.size ≤ maxLen) → (pre.length : Int) + suf.length ≤ 1048576 →
    ∃ r, Ev (fun k => laws_szValS.l0 k (pre ++ suf) q pre.length) r ∧ r ≤ q ∧ (0 ≤ r → ∀ x ∈ suf, (x.f2.size : Int) ≤ 1048576) := by
  induction suf with
  | nil => intro pre q h0 h1 _ _; exact ⟨q, ev_succ (fun k => by rw [laws_szValS.l0, if_neg (by simp)]), by omega, by simp⟩
  | cons b suf ih =>
    intro pre q h0 h1 hs hl
    simp only [List.length_cons, Int.natCast_add, Int.natCast_one] at hl
    have hrd : rd_T70 (pre ++ b :: suf) (pre.length : Int) = b := by unfold rd_T70; simp
    obtain ⟨r, hr, hr1, hr2⟩ := laws_szVal_some b.f0 b.f1 b.f2 q h0 h1 (hs b (by simp))
    by_cases hneg : r < 0
    · refine ⟨-1, ev_succ (fun k => ?_), by omega, by omega⟩
      rw [laws_szValS.l0, if_pos (by simp; omega), if_pos (by omega), hrd, hr]
      simp only [Option.bind_some]
      rw [if_pos hneg]
    · obtain ⟨r', h', h1', h2'⟩ := ih (pre ++ [b]) r (by omega) (by omega) (fun x hx => hs x (by simp [hx])) (by simp; omega)
      refine ⟨r', Ev.step (fun k => ?_) h', by omega, fun h x hx => ?_⟩
      · rw [laws_szValS.l0, if_pos (by simp; omega), if_pos (by omega), hrd, hr]
        simp only [Option.bind_some]
        rw [if_neg hneg, wrap_id (by omega) (by omega)]
        simp
      · rcases List.mem_cons.1 hx with rfl | hx
        · have := hr2 (by omega); omega
        · exact h2' h x hx
theorem laws_szValS_ev {l : List S70} (hl : l.length ≤ maxLen) (hs : ∀ x ∈ l, x.f2.size ≤ maxLen) (q : Int) (h0 : 0 ≤ q) (h1 : q ≤ 1048576) :
    ∃ r, Ev (fun k => laws_szValS.f k l q) r ∧ r ≤ q ∧ (0 ≤ r → l.length ≤ 1048576 ∧ ∀ x ∈ l, (x.f2.size : Int) ≤ 1048576) := by
  unfold maxLen at hl
  unfold laws_szValS.f
  rw [wrap_id (by omega) (by omega)]
  by_cases h : q - (l.length : Int) < 0
  · exact ⟨-1, ev_if h (Ev.now _), by omega, by omega⟩
  · obtain ⟨r, hr, h2, h3⟩ := laws_szValS_l0 l [] (q - (l.length : Int)) (by omega) (by omega) hs (by simp; omega)
    exact ⟨r, ev_ifn h (by simpa using hr), by omega, fun hh => ⟨by omega, h3 hh⟩⟩

def toV (x : S70) : S71 := ⟨x.f0, x.f1, x.f2⟩
theorem laws_toValS_l0 (suf : List S70) : ∀ (pre : List S70) (z : List S71), z.length = suf.length → (pre.length : Int) + suf.length ≤ 1048576 →
    Ev (fun k => laws_toValS.l0 k (pre ++ suf) (pre.map toV ++ z) pre.length) ((pre ++ suf).map toV) := by
  induction suf with
  | nil => intro pre z hz _; obtain rfl : z = [] := List.eq_nil_of_length_eq_zero (by simpa using hz); exact ev_succ (fun k => by rw [laws_toValS.l0, if_neg (by simp)]; simp)
  | cons b suf ih =>
    intro pre z hz hl
    obtain ⟨c, z, rfl⟩ : ∃ c z', z = c :: z' := by cases z with | nil => simp at hz | cons c z => exact ⟨c, z, rfl⟩
    simp only [List.length_cons, Int.natCast_add, Int.natCast_one] at hl hz
    have hrd : rd_T70 (pre ++ b :: suf) (pre.length : Int) = b := by unfold rd_T70; simp
    have h := ih (pre ++ [b]) z (by omega) (by simp; omega)
    refine Ev.step (fun k => ?_) (by simpa using h)
    rw [laws_toValS.l0, if_pos (by simp; omega), if_pos (by omega), hrd]
    unfold laws_toVal.f
    simp only [Option.bind_some]
    rw [if_pos (by simp; omega), wrap_id (by omega) (by omega)]
    simp [toV]
theorem laws_toValS_ev {l : List S70} (hl : l.length ≤ 1048576) : Ev (fun k => laws_toValS.f k l) (l.map toV) := by
  have h := laws_toValS_l0 l [] (List.replicate l.length z71) (by simp) (by simp; omega)
  unfold laws_toValS.f
  refine ev_if (by omega) (ev_if (by simp; omega) ?_)
  simpa using h

theorem laws_eqVal_refl (a b : Int) (s : ByteArray) : laws_eqVal.f a b s a b s = some true := by
  unfold laws_eqVal.f; simp
theorem laws_eqValS_l0 (suf : List S71) : ∀ (pre : List S71), (pre.length : Int) + suf.length ≤ 1048576 →
    Ev (fun k => laws_eqValS.l0 k (pre ++ suf) (pre ++ suf) pre.length) true := by
  induction suf with
  | nil => intro pre _; exact ev_succ (fun k => by rw [laws_eqValS.l0, if_neg (by simp)])
  | cons b suf ih =>
    intro pre hl
    simp only [List.length_cons, Int.natCast_add, Int.natCast_one] at hl
    have h := ih (pre ++ [b]) (by simp; omega)
    refine Ev.step (fun k => ?_) (by simpa using h)
    rw [laws_eqValS.l0, if_pos (by simp; omega), if_pos (by omega), if_pos (by simp; omega), laws_eqVal_refl]
    simp only [Option.bind_some, if_true]
    rw [wrap_id (by omega) (by omega)]
theorem laws_eqValS_refl {l : List S71} (hl : l.length ≤ 1048576) : Ev (fun k => laws_eqValS.f k l l) true := by
  unfold laws_eqValS.f
  exact ev_if rfl (laws_eqValS_l0 l [] (by simp; omega))

def neV (a b : S71) : Bool := (!((a.f0) == (b.f0)) || (!((a.f1) == (b.f1)) || (!(((a.f2).toList) == ((b.f2).toList)))))
def sameL : List S71 → List S71 → Bool
  | a :: l, b :: m => if neV a b = true then false else sameL l m
  | _, _ => true
def sameVals (l m : List S71) : Bool := if l.length = m.length then sameL l m else false
theorem spec_SameVals_l0 (s : List S71) : ∀ (t p q : List S71), p.length = q.length → s.length = t.length → (p.length : Int) + s.length ≤ 1048576 →
    Ev (fun k => spec_SameVals.l0 k (p ++ s) (q ++ t) p.length) (sameL s t) := by
  induction s with
  | nil =>
    intro t p q h1 h2 hl
    cases t with
    | nil => exact ev_succ (fun k => by rw [spec_SameVals.l0, if_neg (by simp)]; rfl)
    | cons b t => simp at h2
  | cons a s ih =>
    intro t p q h1 h2 hl
    cases t with
    | nil => simp at h2
    | cons b t =>
      simp only [List.length_cons, Int.natCast_add, Int.natCast_one] at hl h2
      have ha : rd_T71 (p ++ a :: s) (p.length : Int) = a := by unfold rd_T71; simp
      have hb : rd_T71 (q ++ b :: t) (p.length : Int) = b := by unfold rd_T71; rw [h1]; simp
      have ih := ih t (p ++ [a]) (q ++ [b]) (by simp [h1]) (by omega) (by simp; omega)
      unfold sameL
      cases hn : neV a b with
      | true =>
        refine ev_succ (fun k => ?_)
        rw [spec_SameVals.l0, if_pos (by simp; omega), if_pos (by omega), if_pos (by simp; omega), ha, hb]
        exact if_pos hn
      | false =>
        refine Ev.step (fun k => ?_) ih
        rw [spec_SameVals.l0, if_pos (by simp; omega), if_pos (by omega), if_pos (by simp; omega), ha, hb]
        refine (if_neg (by unfold neV at hn; rw [hn]; decide)).trans ?_
        rw [wrap_id (by omega) (by omega)]
        simp
theorem impl_Val_l0 (s : List S71) : ∀ (t p q : List S71), p.length = q.length → s.length = t.length → (p.length : Int) + s.length ≤ 1048576 →
    Ev (fun k => impl_Val.l0 k (p ++ s) (q ++ t) ((p ++ s).length : Int) p.length) (sameL s t) := by
  induction s with
  | nil =>
    intro t p q h1 h2 hl
    cases t with
    | nil => exact ev_succ (fun k => by rw [impl_Val.l0, if_neg (by simp)]; rfl)
    | cons b t => simp at h2
  | cons a s ih =>
    intro t p q h1 h2 hl
    cases t with
    | nil => simp at h2
    | cons b t =>
      simp only [List.length_cons, Int.natCast_add, Int.natCast_one] at hl h2
      have ha : rd_T71 (p ++ a :: s) (p.length : Int) = a := by unfold rd_T71; simp
      have hb : rd_T71 (q ++ b :: t) (p.length : Int) = b := by unfold rd_T71; rw [h1]; simp
      have ih := ih t (p ++ [a]) (q ++ [b]) (by simp [h1]) (by omega) (by simp; omega)
      unfold sameL
      cases hn : neV a b with
      | true =>
        refine ev_succ (fun k => ?_)
        rw [impl_Val.l0, if_pos (by simp; omega), if_pos (by omega), if_pos (by simp; omega), if_pos (by simp; omega), ha, hb]
        exact if_pos hn
      | false =>
        refine Ev.step (fun k => ?_) ih
        rw [impl_Val.l0, if_pos (by simp; omega), if_pos (by omega), if_pos (by simp; omega), if_pos (by simp; omega), ha, hb]
        refine (if_neg (by unfold neV at hn; rw [hn]; decide)).trans ?_
        rw [wrap_id (by omega) (by omega)]
        simp
theorem spec_SameVals_ev {l m : List S71} (hl : l.length ≤ 1048576) : Ev (fun k => spec_SameVals.f k l m) (sameVals l m) := by
  unfold spec_SameVals.f sameVals
  by_cases h : l.length = m.length
  · rw [if_pos h]; exact ev_if (by omega) (spec_SameVals_l0 l m [] [] rfl h (by simp; omega))
  · rw [if_neg h]; exact ev_ifn (by omega) (Ev.now _)
theorem impl_SameVals_ev {l m : List S71} (hl : l.length ≤ 1048576) : Ev (fun k => impl_SameVals.f k l m) (sameVals l m) := by
  unfold impl_SameVals.f impl_Val.f sameVals
  by_cases h : l.length = m.length
  · rw [if_pos h]; exact ev_bind (ev_if (by omega) (impl_Val_l0 l m [] [] rfl h (by simp; omega))) (Ev.now _)
  · rw [if_neg h]; exact ev_bind (ev_ifn (by omega) (Ev.now _)) (Ev.now _)

theorem FnExactSameVals (l0 l1 : List S70) (o0 : okList ok70 l0) (o1 : okList ok70 l1) : ∃ k, laws_FnExactSameVals.f k l0 l1 = some true := by
  refine Ev.rounds (g := fun k => laws_FnExactSameVals.f k l0 l1) ?_
  unfold laws_FnExactSameVals.f
  obtain ⟨r, hr, hr1, hr2⟩ := laws_szValS_ev o0.1 (fun x hx => (o0.2 x hx).2.2) 1048576 (by omega) (by omega)
  refine ev_bind hr ?_
  by_cases h : r < 0
  · exact ev_if h (Ev.now _)
  refine ev_ifn h ?_
  obtain ⟨q, hq, hq1, hq2⟩ := laws_szValS_ev o1.1 (fun x hx => (o1.2 x hx).2.2) r (by omega) (by omega)
  refine ev_bind hq ?_
  by_cases h' : q < 0
  · exact ev_if h' (Ev.now _)
  refine ev_ifn h' ?_
  have b0 := (hr2 (by omega)).1
  have b1 := (hq2 (by omega)).1
  refine ev_bind (laws_toValS_ev b0) (ev_bind (laws_toValS_ev b1) (ev_bind (spec_SameVals_ev (by simpa using b0)) ?_))
  refine ev_bind (laws_toValS_ev b0) (ev_bind (laws_toValS_ev b1) (ev_bind (impl_SameVals_ev (by simpa using b0)) ?_))
  refine ev_ifn (by simp) ?_
  refine ev_bind (laws_toValS_ev b0) (ev_bind (laws_eqValS_refl (by simpa using b0)) (ev_if rfl ?_))
  refine ev_bind (laws_toValS_ev b1) (ev_bind (laws_eqValS_refl (by simpa using b1)) (ev_if rfl (Ev.now _)))

end Go.Proofs.Ytmjmcgheeljieaa.Pure
