/- for all int64 a and b, PairLock answers as the reference does, in new memory. -/
import Derived.Test.YtmjmcgheeljieaaQFnExactPairLockx2
namespace Go.Proofs.Ytmjmcgheeljieaa.Pure
open Go.RowKit Go.Proofs.Ytmjmcgheeljieaa.QFnExactPairLock Go.Proofs.YtmjmcgheeljieaaW.PrintWords Go.Proofs.YtmjmcgheeljieaaW.PrintLast
set_option linter.unusedVariables false
set_option linter.unusedSimpArgs false

theorem wrap_id {x : Int} (h1 : -9223372036854775808 ≤ x) (h2 : x ≤ 9223372036854775807) : wrap64 x = x := by
  unfold wrap64; omega
theorem wf64 {x : Int} (h : (Lit.int .i64 x).wf = true) : -9223372036854775808 ≤ x ∧ x ≤ 9223372036854775807 := by
  simpa [Lit.wf, IntKind.min, IntKind.max, IntKind.signed, IntKind.bits] using h
theorem wf8 {x : Int} (h : (Lit.int .u8 x).wf = true) : 0 ≤ x ∧ x ≤ 255 := by
  simpa [Lit.wf, IntKind.min, IntKind.max, IntKind.signed, IntKind.bits] using h
theorem ev_some {α : Type} {g : Nat → Option α} {r : α} (h : ∀ k, g k = some r) : Ev g r := ⟨0, fun k _ => h k⟩
theorem ev_succ {α : Type} {g : Nat → Option α} {r : α} (h : ∀ k, g (k + 1) = some r) : Ev g r := Ev.step h (Ev.now r)
/-- A call whose answer is known, and what follows. -/
theorem ev_bind {α β : Type} {g : Nat → Option α} {f : α → Nat → Option β} {a : α} {r : β} (h : Ev g a) (k : Ev (f a) r) : Ev (fun n => (g n).bind fun t => f t n) r :=
  Ev.bind (f := fun n t => f t n) h k
theorem ev_if {α : Type} {p : Prop} [Decidable p] {g f : Nat → Option α} {r : α} (hp : p) (k : Ev g r) : Ev (fun n => if p then g n else f n) r :=
  Ev.congr (fun n => if_pos hp) k
theorem ev_ifn {α : Type} {p : Prop} [Decidable p] {g f : Nat → Option α} {r : α} (hp : ¬ p) (k : Ev f r) : Ev (fun n => if p then g n else f n) r :=
  Ev.congr (fun n => if_neg hp) k
theorem ev_bind0 {α β : Type} {g : Option α} {f : α → Nat → Option β} {a : α} {r : β} (h : g = some a) (k : Ev (f a) r) : Ev (fun n => g.bind fun t => f t n) r := by
  subst h; exact k
theorem rd_mid (pre : List Int) (b : Int) (suf : List Int) : rd (pre ++ b :: suf) (pre.length : Int) = b := by
  unfold rd
  simp
theorem rd_at {l : List Int} {i : Int} (h0 : 0 ≤ i) (h1 : i < l.length) : rd l i = l[i.toNat]'(by omega) := by
  unfold rd
  rw [List.getD_eq_getElem?_getD, List.getElem?_eq_getElem (by omega)]; rfl
theorem split_at_len {α : Type} (l : List α) (n : Nat) (h : n ≤ l.length) : ∃ pre suf, l = pre ++ suf ∧ pre.length = n :=
  ⟨l.take n, l.drop n, (List.take_append_drop n l).symm, by simp; omega⟩

theorem spec_l1In_eq (a b c : Int) : spec_l1In.f a b c = some (decide (b ≤ a ∧ a ≤ c)) := by
  unfold spec_l1In.f
  by_cases h : a ≥ b
  · rw [if_pos h]; congr 1; rw [Bool.eq_iff_iff]; simp; omega
  · rw [if_neg h]; congr 1; symm; simp; omega
theorem impl_in_eq (a b c : Int) : impl_in.f a b c = some (decide (b ≤ a ∧ a ≤ c)) := by
  unfold impl_in.f
  by_cases h : a ≥ b
  · rw [if_pos h]; congr 1; rw [Bool.eq_iff_iff]; simp; omega
  · rw [if_neg h]; congr 1; symm; simp; omega

theorem spec_l2Key_eq (a : Int) : spec_l2Key.f a = some (decide (0 ≤ a ∧ a ≤ 899)) := by
  unfold spec_l2Key.f; rw [spec_l1In_eq]; rfl
theorem impl_isKey_eq (a : Int) : impl_isKey.f a = some (decide (0 ≤ a ∧ a ≤ 899)) := by
  unfold impl_isKey.f; rw [impl_in_eq]; rfl

theorem laws_eqInt64S_l0 (suf : List Int) : ∀ (pre : List Int), (pre.length : Int) + suf.length ≤ 9223372036854775806 →
    Ev (fun k => laws_eqInt64S.l0 k (pre ++ suf) (pre ++ suf) pre.length) true := by
  induction suf with
  | nil => intro pre _; exact ev_succ (fun k => by simp [laws_eqInt64S.l0])
  | cons b suf ih =>
    intro pre hl
    simp only [List.length_cons, Int.natCast_add, Int.natCast_one] at hl
    have h := ih (pre ++ [b]) (by simp; omega)
    refine Ev.step (fun k => ?_) (by simpa using h)
    rw [laws_eqInt64S.l0]
    rw [if_pos (by simp; omega), if_pos (by omega), if_pos (by simp; omega), if_pos rfl, wrap_id (by omega) (by omega)]
theorem laws_eqInt64S_refl {l : List Int} (hl : l.length ≤ 140737488351232) : Ev (fun k => laws_eqInt64S.f k l l) true := by
  unfold laws_eqInt64S.f
  exact ev_if rfl (laws_eqInt64S_l0 l [] (by simp; omega))

/-- The marks from k on. -/
def marks (k : Int) : Nat → List Int
  | 0 => []
  | n + 1 => k :: marks (k + 1) n
theorem marks_length (k : Int) (n : Nat) : (marks k n).length = n := by
  induction n generalizing k with
  | zero => rfl
  | succ n ih => simp [marks, ih]
theorem laws_markInt64S_l0 (suf : List Int) : ∀ (pre : List Int) (q : Int), 0 ≤ q → q + suf.length ≤ 9223372036854775806 → (pre.length : Int) + suf.length ≤ 9223372036854775806 →
    Ev (fun k => laws_markInt64S.l0 k (pre ++ suf) q pre.length) (q + suf.length, pre ++ marks q suf.length) := by
  induction suf with
  | nil => intro pre q _ _ _; exact ev_succ (fun k => by simp [laws_markInt64S.l0, marks])
  | cons b suf ih =>
    intro pre q h0 hq hl
    simp only [List.length_cons, Int.natCast_add, Int.natCast_one] at hl hq
    have h := ih (pre ++ [q]) (q + 1) (by omega) (by omega) (by simp; omega)
    refine Ev.step (f := fun k => laws_markInt64S.l0 k (pre ++ [q] ++ suf) (q + 1) ((pre ++ [q]).length : Int)) (fun k => ?_) ?_
    · rw [laws_markInt64S.l0]
      rw [if_pos (by simp; omega), if_pos (by omega), wrap_id (x := q + 1) (by omega) (by omega), wrap_id (by omega) (by omega)]
      simp
    · have e : ((q + ((b :: suf).length : Int), pre ++ marks q (b :: suf).length) : Int × List Int) = (q + 1 + (suf.length : Int), pre ++ [q] ++ marks (q + 1) suf.length) := by
        simp [marks]; omega
      rw [e]; exact h
theorem laws_markInt64S_ev {l : List Int} {q : Int} (h0 : 0 ≤ q) (hq : q ≤ 4611686018427387904) (hl : l.length ≤ 140737488351232) : Ev (fun k => laws_markInt64S.f k l q) (q + l.length, marks q l.length) := by
  have h := laws_markInt64S_l0 l [] q h0 (by omega) (by simp; omega)
  unfold laws_markInt64S.f
  simpa using h
theorem laws_heldInt64S_l0 (n : Nat) : ∀ (pre : List Int) (q : Int), 0 ≤ q → q + n ≤ 9223372036854775806 → (pre.length : Int) + n ≤ 9223372036854775806 →
    Ev (fun k => laws_heldInt64S.l0 k (pre ++ marks q n) q pre.length) (q + n) := by
  induction n with
  | zero => intro pre q _ _ _; exact ev_succ (fun k => by simp [laws_heldInt64S.l0, marks])
  | succ n ih =>
    intro pre q h0 hq hl
    simp only [Int.natCast_add, Int.natCast_one] at hl hq
    have h := ih (pre ++ [q]) (q + 1) (by omega) (by omega) (by simp; omega)
    refine Ev.step (f := fun k => laws_heldInt64S.l0 k (pre ++ [q] ++ marks (q + 1) n) (q + 1) ((pre ++ [q]).length : Int)) (fun k => ?_) ?_
    · rw [laws_heldInt64S.l0, marks]
      rw [if_pos (by simp [marks_length]; omega), if_pos (by omega), rd_mid, if_pos rfl, wrap_id (x := q + 1) (by omega) (by omega), wrap_id (by omega) (by omega)]
      simp
    · have e : q + ((n + 1 : Nat) : Int) = q + 1 + (n : Int) := by omega
      rw [e]; exact h
theorem laws_heldInt64S_ev {q : Int} {n : Nat} (h0 : 0 ≤ q) (hq : q ≤ 4611686018427387904) (hl : n ≤ 140737488351232) : Ev (fun k => laws_heldInt64S.f k (marks q n) q) (q + n) := by
  have h := laws_heldInt64S_l0 n [] q h0 (by omega) (by simp; omega)
  unfold laws_heldInt64S.f
  simpa using h

theorem laws_eqIntsResult_refl (a : Int) {l : List Int} (hl : l.length ≤ 140737488351232) : Ev (fun k => laws_eqIntsResult.f k a l a l) true := by
  unfold laws_eqIntsResult.f
  exact ev_if rfl (ev_bind (laws_eqInt64S_refl hl) (ev_if rfl (Ev.now _)))
theorem laws_markIntsResult_ev (a : Int) {l : List Int} {q : Int} (h0 : 0 ≤ q) (hq : q ≤ 4611686018427387904) (hl : l.length ≤ 140737488351232) : Ev (fun k => laws_markIntsResult.f k a l q) (q + l.length, marks q l.length) := by
  unfold laws_markIntsResult.f
  exact ev_bind (laws_markInt64S_ev h0 hq hl) (Ev.now _)
theorem laws_heldIntsResult_ev (a : Int) {q : Int} {n : Nat} (h0 : 0 ≤ q) (hq : q ≤ 4611686018427387904) (hl : n ≤ 140737488351232) : Ev (fun k => laws_heldIntsResult.f k a (marks q n) q) (q + n) := by
  unfold laws_heldIntsResult.f
  exact ev_bind (laws_heldInt64S_ev h0 hq hl) (ev_ifn (by omega) (Ev.now _))

theorem slices_Concat_int64_int64_rd (pre : List (List Int)) (b : List Int) (suf : List (List Int)) : rd_L1 (pre ++ b :: suf) (pre.length : Int) = b := by
  unfold rd_L1
  simp
theorem slices_Concat_int64_int64_l1 (suf : List (List Int)) : ∀ (pre : List (List Int)) (acc : List Int), pre.length + suf.length ≤ 100000 → acc.length + suf.flatten.length ≤ 1000000000 →
    Ev (fun k => slices_Concat_int64_int64.l1 k acc (pre ++ suf) ((pre ++ suf).length : Int) pre.length) (acc ++ suf.flatten) := by
  induction suf with
  | nil => intro pre acc _ _; exact ev_succ (fun k => by rw [slices_Concat_int64_int64.l1, if_neg (by simp)]; simp)
  | cons b suf ih =>
    intro pre acc h1 h2
    simp only [List.length_cons, List.flatten_cons, List.length_append] at h1 h2
    have h := ih (pre ++ [b]) (acc ++ b) (by simp; omega) (by simp only [List.length_append]; omega)
    refine Ev.step (fun k => ?_) (by simpa using h)
    rw [slices_Concat_int64_int64.l1, if_pos (by simp; omega), if_pos (by omega), if_pos (by simp; omega), slices_Concat_int64_int64_rd, if_pos (by omega), wrap_id (by omega) (by omega)]
    simp
theorem slices_Concat_int64_int64_l0 (suf : List (List Int)) : ∀ (pre : List (List Int)) (n : Int), 0 ≤ n → n + suf.flatten.length ≤ 1000000000 → pre.length + suf.length ≤ 100000 → (pre ++ suf).flatten.length ≤ 1000000000 →
    Ev (fun k => slices_Concat_int64_int64.l0 k (pre ++ suf) n (pre ++ suf) ((pre ++ suf).length : Int) pre.length) (pre ++ suf).flatten := by
  induction suf with
  | nil =>
    intro pre n h0 h1 h2 h3
    refine Ev.step (f := fun k => (slices_Grow_at_nil.f n).bind fun t => slices_Concat_int64_int64.l1 k t (pre ++ []) ((pre ++ []).length : Int) 0) (fun k => by rw [slices_Concat_int64_int64.l0, if_neg (by simp)]) ?_
    refine ev_bind0 (a := []) (by unfold slices_Grow_at_nil.f; rw [if_pos h0, if_pos (by simp at h1; omega)]) ?_
    have := slices_Concat_int64_int64_l1 (pre ++ []) [] [] (by simpa using h2) (by simpa using h3)
    simpa using this
  | cons b suf ih =>
    intro pre n h0 h1 h2 h3
    simp only [List.length_cons, List.flatten_cons, List.length_append] at h1 h2
    have h := ih (pre ++ [b]) (n + b.length) (by omega) (by omega) (by simp; omega) (by simpa using h3)
    refine Ev.step (fun k => ?_) (by simpa using h)
    rw [slices_Concat_int64_int64.l0, if_pos (by simp; omega), if_pos (by omega), if_pos (by simp; omega), slices_Concat_int64_int64_rd, wrap_id (x := n + (b.length : Int)) (by omega) (by omega), if_neg (by omega), wrap_id (by omega) (by omega)]
    simp
theorem slices_Concat_int64_int64_ev {x : List (List Int)} (h1 : x.length ≤ 100000) (h2 : x.flatten.length ≤ 1000000000) : Ev (fun k => slices_Concat_int64_int64.f k x) x.flatten := by
  have := slices_Concat_int64_int64_l0 x [] 0 (by omega) (by omega) (by simpa using h1) (by simpa using h2)
  unfold slices_Concat_int64_int64.f
  simpa using this

def pairV2 (a b : Int) : Int × List Int := if (0 ≤ a ∧ a ≤ 899) ∧ (0 ≤ b ∧ b ≤ 899) then (0, [100 + a, 8, 6, 100 + b, 8]) else (3, [])
theorem pairV2_length (a b : Int) : (pairV2 a b).2.length ≤ 140737488351232 := by unfold pairV2; split <;> simp
theorem spec_PairLock_ev (a b : Int) : Ev (fun k => spec_PairLock.f k a b) (pairV2 a b) := by
  unfold spec_PairLock.f pairV2
  refine ev_bind0 (spec_l2Key_eq _) ?_
  by_cases h1 : 0 ≤ a ∧ a ≤ 899
  · refine ev_if (by simpa using h1) (ev_bind0 (spec_l2Key_eq _) ?_)
    by_cases h2 : 0 ≤ b ∧ b ≤ 899
    · rw [if_pos ⟨h1, h2⟩]
      refine ev_succ (fun k => ?_)
      rw [spec_PairLock.j0, if_neg (by simpa using h2)]
      unfold spec_l2KeyLock.f
      rw [wrap_id (by omega) (by omega), wrap_id (by omega) (by omega)]
      simp
    · rw [if_neg (fun h => h2 h.2)]
      exact ev_succ (fun k => by rw [spec_PairLock.j0, if_pos (by simp; omega)])
  · rw [if_neg (fun h => h1 h.1)]
    exact ev_ifn (by simpa using h1) (ev_succ (fun k => by rw [spec_PairLock.j0, if_pos rfl]))
theorem impl_PairLock_ev (a b : Int) : Ev (fun k => impl_PairLock.f k a b) (pairV2 a b) := by
  unfold impl_PairLock.f pairV2
  refine ev_bind0 (impl_isKey_eq _) ?_
  by_cases h1 : 0 ≤ a ∧ a ≤ 899
  · refine ev_if (by simpa using h1) (ev_bind0 (impl_isKey_eq _) ?_)
    by_cases h2 : 0 ≤ b ∧ b ≤ 899
    · rw [if_pos ⟨h1, h2⟩]
      refine Ev.step (fun k => by rw [impl_PairLock.j0, if_neg (by simpa using h2)]) ?_
      refine ev_bind0 (a := [100 + a, 8]) (by unfold impl_keyLock.f; rw [wrap_id (by omega) (by omega)]) ?_
      refine ev_bind0 (a := [100 + b, 8]) (by unfold impl_keyLock.f; rw [wrap_id (by omega) (by omega)]) ?_
      exact ev_bind (slices_Concat_int64_int64_ev (by simp) (by simp)) (Ev.now _)
    · rw [if_neg (fun h => h2 h.2)]
      exact ev_succ (fun k => by rw [impl_PairLock.j0, if_pos (by simp; omega)])
  · rw [if_neg (fun h => h1 h.1)]
    exact ev_ifn (by simpa using h1) (ev_succ (fun k => by rw [impl_PairLock.j0, if_pos rfl]))
theorem FnExactPairLock : laws_FnExactPairLock.Pure := by
  intro a b ha hb
  refine Ev.rounds (g := fun k => laws_FnExactPairLock.f k a b) ?_
  have hl' := pairV2_length a b
  unfold laws_FnExactPairLock.f
  refine ev_bind (spec_PairLock_ev a b) (ev_bind (impl_PairLock_ev a b) ?_)
  refine ev_bind (laws_eqIntsResult_refl _ hl') (ev_if rfl ?_)
  refine ev_bind (laws_markIntsResult_ev _ (by omega) (by omega) hl') ?_
  refine ev_bind (laws_heldIntsResult_ev _ (by omega) (by omega) hl') ?_
  refine ev_ifn (by omega) (ev_if rfl ?_)
  refine ev_bind (impl_PairLock_ev a b) ?_
  refine ev_bind (laws_eqIntsResult_refl _ hl') (ev_if rfl ?_)
  refine ev_bind (laws_heldIntsResult_ev _ (by omega) (by omega) hl') ?_
  exact ev_ifn (by omega) (ev_if rfl (Ev.now _))

end Go.Proofs.Ytmjmcgheeljieaa.Pure
