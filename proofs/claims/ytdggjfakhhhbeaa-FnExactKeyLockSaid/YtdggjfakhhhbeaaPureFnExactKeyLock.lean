/- for every int64 key, KeyLock answers as the reference does, in new memory. -/
import Derived.Test.YtdggjfakhhhbeaaPFnExactKeyLockx1
namespace Go.Proofs.Ytdggjfakhhhbeaa.Pure
open Go.RowKit Go.Proofs.Ytdggjfakhhhbeaa.PFnExactKeyLock Go.Proofs.YtdggjfakhhhbeaaW.PrintWords Go.Proofs.YtdggjfakhhhbeaaW.PrintLast
set_option linter.unusedVariables false
set_option linter.unusedSimpArgs false

theorem wrap_id {x : Int} (h1 : -9223372036854775808 ≤ x) (h2 : x ≤ 9223372036854775807) : wrap64 x = x := by
  unfold wrap64; omega
theorem wf64 {x : Int} (h : (Lit.int .i64 x).wf = true) : -9223372036854775808 ≤ x ∧ x ≤ 9223372036854775807 := by
  simpa [Lit.wf, IntKind.min, IntKind.max, IntKind.signed, IntKind.bits] using h
theorem wf8 {x : Int} (h : (Lit.int .u8 x).wf = true) : 0 ≤ x ∧ x ≤ 255 := by
  simpa [Lit.wf, IntKind.min, IntKind.max, IntKind.signed, IntKind.bits] using h
theorem ev_some {α : Type} {g : Nat → Option α} {r : α} (h : ∀ k, g k = some r) : Ev g r := ⟨0, fun k _ => h k⟩
theorem ev_succ {α : Type} {g : Nat → Option α} {r : α} (h : ∀ k, g (k + 1) = some r) : Ev g r := Ev.step h (Ev.now r)
/-- A call whose answer is known, and what follows. -/
theorem ev_bind {α β : Type} {g : Nat → Option α} {f : α → Nat → Option β} {a : α} {r : β} (h : Ev g a) (k : Ev (f a) r) : Ev (fun n => (g n).bind fun t => f t n) r :=
  Ev.bind (f := fun n t => f t n) h k
theorem ev_if {α : Type} {p : Prop} [Decidable p] {g f : Nat → Option α} {r : α} (hp : p) (k : Ev g r) : Ev (fun n => if p then g n else f n) r :=
  Ev.congr (fun n => if_pos hp) k
theorem ev_ifn {α : Type} {p : Prop} [Decidable p] {g f : Nat → Option α} {r : α} (hp : ¬ p) (k : Ev f r) : Ev (fun n => if p then g n else f n) r :=
  Ev.congr (fun n => if_neg hp) k
theorem ev_bind0 {α β : Type} {g : Option α} {f : α → Nat → Option β} {a : α} {r : β} (h : g = some a) (k : Ev (f a) r) : Ev (fun n => g.bind fun t => f t n) r := by
  subst h; exact k
theorem rd_mid (pre : List Int) (b : Int) (suf : List Int) : rd (pre ++ b :: suf) (pre.length : Int) = b := by
  unfold rd
  simp
theorem rd_at {l : List Int} {i : Int} (h0 : 0 ≤ i) (h1 : i < l.length) : rd l i = l[i.toNat]'(by omega) := by
  unfold rd
  rw [List.getD_eq_getElem?_getD, List.getElem?_eq_getElem (by omega)]; rfl
theorem split_at_len {α : Type} (l : List α) (n : Nat) (h : n ≤ l.length) : ∃ pre suf, l = pre ++ suf ∧ pre.length = n :=
  ⟨l.take n, l.drop n, (List.take_append_drop n l).symm, by simp; omega⟩

theorem spec_l1In_eq (a b c : Int) : spec_l1In.f a b c = some (decide (b ≤ a ∧ a ≤ c)) := by
  unfold spec_l1In.f
  by_cases h : a ≥ b
  · rw [if_pos h]; congr 1; rw [Bool.eq_iff_iff]; simp; omega
  · rw [if_neg h]; congr 1; symm; simp; omega
theorem impl_in_eq (a b c : Int) : impl_in.f a b c = some (decide (b ≤ a ∧ a ≤ c)) := by
  unfold impl_in.f
  by_cases h : a ≥ b
  · rw [if_pos h]; congr 1; rw [Bool.eq_iff_iff]; simp; omega
  · rw [if_neg h]; congr 1; symm; simp; omega

theorem spec_l2Key_eq (a : Int) : spec_l2Key.f a = some (decide (0 ≤ a ∧ a ≤ 899)) := by
  unfold spec_l2Key.f; rw [spec_l1In_eq]; rfl
theorem impl_isKey_eq (a : Int) : impl_isKey.f a = some (decide (0 ≤ a ∧ a ≤ 899)) := by
  unfold impl_isKey.f; rw [impl_in_eq]; rfl

theorem laws_eqInt64S_l0 (suf : List Int) : ∀ (pre : List Int), (pre.length : Int) + suf.length ≤ 9223372036854775806 →
    Ev (fun k => laws_eqInt64S.l0 k (pre ++ suf) (pre ++ suf) pre.length) true := by
  induction suf with
  | nil => intro pre _; exact ev_succ (fun k => by simp [laws_eqInt64S.l0])
  | cons b suf ih =>
    intro pre hl
    simp only [List.length_cons, Int.natCast_add, Int.natCast_one] at hl
    have h := ih (pre ++ [b]) (by simp; omega)
    refine Ev.step (fun k => ?_) (by simpa using h)
    rw [laws_eqInt64S.l0]
    rw [if_pos (by simp; omega), if_pos (by omega), if_pos (by simp; omega), if_pos rfl, wrap_id (by omega) (by omega)]
theorem laws_eqInt64S_refl {l : List Int} (hl : l.length ≤ 140737488351232) : Ev (fun k => laws_eqInt64S.f k l l) true := by
  unfold laws_eqInt64S.f
  exact ev_if rfl (laws_eqInt64S_l0 l [] (by simp; omega))

/-- The marks from k on. -/
def marks (k : Int) : Nat → List Int
  | 0 => []
  | n + 1 => k :: marks (k + 1) n
theorem marks_length (k : Int) (n : Nat) : (marks k n).length = n := by
  induction n generalizing k with
  | zero => rfl
  | succ n ih => simp [marks, ih]
theorem laws_markInt64S_l0 (suf : List Int) : ∀ (pre : List Int) (q : Int), 0 ≤ q → q + suf.length ≤ 9223372036854775806 → (pre.length : Int) + suf.length ≤ 9223372036854775806 →
    Ev (fun k => laws_markInt64S.l0 k (pre ++ suf) q pre.length) (q + suf.length, pre ++ marks q suf.length) := by
  induction suf with
  | nil => intro pre q _ _ _; exact ev_succ (fun k => by simp [laws_markInt64S.l0, marks])
  | cons b suf ih =>
    intro pre q h0 hq hl
    simp only [List.length_cons, Int.natCast_add, Int.natCast_one] at hl hq
    have h := ih (pre ++ [q]) (q + 1) (by omega) (by omega) (by simp; omega)
    refine Ev.step (f := fun k => laws_markInt64S.l0 k (pre ++ [q] ++ suf) (q + 1) ((pre ++ [q]).length : Int)) (fun k => ?_) ?_
    · rw [laws_markInt64S.l0]
      rw [if_pos (by simp; omega), if_pos (by omega), wrap_id (x := q + 1) (by omega) (by omega), wrap_id (by omega) (by omega)]
      simp
    · have e : ((q + ((b :: suf).length : Int), pre ++ marks q (b :: suf).length) : Int × List Int) = (q + 1 + (suf.length : Int), pre ++ [q] ++ marks (q + 1) suf.length) := by
        simp [marks]; omega
      rw [e]; exact h
theorem laws_markInt64S_ev {l : List Int} {q : Int} (h0 : 0 ≤ q) (hq : q ≤ 4611686018427387904) (hl : l.length ≤ 140737488351232) : Ev (fun k => laws_markInt64S.f k l q) (q + l.length, marks q l.length) := by
  have h := laws_markInt64S_l0 l [] q h0 (by omega) (by simp; omega)
  unfold laws_markInt64S.f
  simpa using h
theorem laws_heldInt64S_l0 (n : Nat) : ∀ (pre : List Int) (q : Int), 0 ≤ q → q + n ≤ 9223372036854775806 → (pre.length : Int) + n ≤ 9223372036854775806 →
    Ev (fun k => laws_heldInt64S.l0 k (pre ++ marks q n) q pre.length) (q + n) := by
  induction n with
  | zero => intro pre q _ _ _; exact ev_succ (fun k => by simp [laws_heldInt64S.l0, marks])
  | succ n ih =>
    intro pre q h0 hq hl
    simp only [Int.natCast_add, Int.natCast_one] at hl hq
    have h := ih (pre ++ [q]) (q + 1) (by omega) (by omega) (by simp; omega)
    refine Ev.step (f := fun k => laws_heldInt64S.l0 k (pre ++ [q] ++ marks (q + 1) n) (q + 1) ((pre ++ [q]).length : Int)) (fun k => ?_) ?_
    · rw [laws_heldInt64S.l0, marks]
      rw [if_pos (by simp [marks_length]; omega), if_pos (by omega), rd_mid, if_pos rfl, wrap_id (x := q + 1) (by omega) (by omega), wrap_id (by omega) (by omega)]
      simp
    · have e : q + ((n + 1 : Nat) : Int) = q + 1 + (n : Int) := by omega
      rw [e]; exact h
theorem laws_heldInt64S_ev {q : Int} {n : Nat} (h0 : 0 ≤ q) (hq : q ≤ 4611686018427387904) (hl : n ≤ 140737488351232) : Ev (fun k => laws_heldInt64S.f k (marks q n) q) (q + n) := by
  have h := laws_heldInt64S_l0 n [] q h0 (by omega) (by simp; omega)
  unfold laws_heldInt64S.f
  simpa using h

theorem laws_eqIntsResult_refl (a : Int) {l : List Int} (hl : l.length ≤ 140737488351232) : Ev (fun k => laws_eqIntsResult.f k a l a l) true := by
  unfold laws_eqIntsResult.f
  exact ev_if rfl (ev_bind (laws_eqInt64S_refl hl) (ev_if rfl (Ev.now _)))
theorem laws_markIntsResult_ev (a : Int) {l : List Int} {q : Int} (h0 : 0 ≤ q) (hq : q ≤ 4611686018427387904) (hl : l.length ≤ 140737488351232) : Ev (fun k => laws_markIntsResult.f k a l q) (q + l.length, marks q l.length) := by
  unfold laws_markIntsResult.f
  exact ev_bind (laws_markInt64S_ev h0 hq hl) (Ev.now _)
theorem laws_heldIntsResult_ev (a : Int) {q : Int} {n : Nat} (h0 : 0 ≤ q) (hq : q ≤ 4611686018427387904) (hl : n ≤ 140737488351232) : Ev (fun k => laws_heldIntsResult.f k a (marks q n) q) (q + n) := by
  unfold laws_heldIntsResult.f
  exact ev_bind (laws_heldInt64S_ev h0 hq hl) (ev_ifn (by omega) (Ev.now _))

theorem FnExactKeyLock : laws_FnExactKeyLock.Pure := by
  intro a ha
  refine Ev.rounds (g := fun k => laws_FnExactKeyLock.f k a) ?_
  have e : spec_KeyLock.f a = impl_KeyLock.f a ∧ ∃ c l, impl_KeyLock.f a = some (c, l) ∧ l.length ≤ 2 := by
    unfold spec_KeyLock.f impl_KeyLock.f spec_l2KeyLock.f impl_keyLock.f
    simp only [spec_l2Key_eq, impl_isKey_eq, Option.bind_some]
    refine ⟨trivial, ?_⟩
    by_cases h : 0 ≤ a ∧ a ≤ 899
    · exact ⟨_, _, if_pos (by simpa using h), by simp⟩
    · exact ⟨_, _, if_neg (by simpa using h), by simp⟩
  obtain ⟨e1, c, l, e2, hl⟩ := e
  have hl' : l.length ≤ 140737488351232 := by omega
  unfold laws_FnExactKeyLock.f
  refine ev_bind0 (e1.trans e2) (ev_bind0 e2 ?_)
  refine ev_bind (laws_eqIntsResult_refl _ hl') (ev_if rfl ?_)
  refine ev_bind (laws_markIntsResult_ev _ (by omega) (by omega) hl') ?_
  refine ev_bind (laws_heldIntsResult_ev _ (by omega) (by omega) hl') ?_
  refine ev_ifn (by omega) (ev_if rfl ?_)
  refine ev_bind0 e2 ?_
  refine ev_bind (laws_eqIntsResult_refl _ hl') (ev_if rfl ?_)
  refine ev_bind (laws_heldIntsResult_ev _ (by omega) (by omega) hl') ?_
  exact ev_ifn (by omega) (ev_if rfl (Ev.now _))

end Go.Proofs.Ytdggjfakhhhbeaa.Pure
