/- for every int64, PutVar answers as the reference does, in new memory. -/
import Derived.Test.YtmjmcgheeljieaaPFnExactPutVarx1
namespace Go.Proofs.Ytmjmcgheeljieaa.Pure
open Go.RowKit Go.Proofs.Ytmjmcgheeljieaa.PFnExactPutVar Go.Proofs.YtmjmcgheeljieaaW.PrintWords Go.Proofs.YtmjmcgheeljieaaW.PrintLast
set_option linter.unusedVariables false
set_option linter.unusedSimpArgs false

theorem wrap_id {x : Int} (h1 : -9223372036854775808 ≤ x) (h2 : x ≤ 9223372036854775807) : wrap64 x = x := by
  unfold wrap64; omega
theorem wf64 {x : Int} (h : (Lit.int .i64 x).wf = true) : -9223372036854775808 ≤ x ∧ x ≤ 9223372036854775807 := by
  simpa [Lit.wf, IntKind.min, IntKind.max, IntKind.signed, IntKind.bits] using h
theorem wf8 {x : Int} (h : (Lit.int .u8 x).wf = true) : 0 ≤ x ∧ x ≤ 255 := by
  simpa [Lit.wf, IntKind.min, IntKind.max, IntKind.signed, IntKind.bits] using h
theorem ev_some {α : Type} {g : Nat → Option α} {r : α} (h : ∀ k, g k = some r) : Ev g r := ⟨0, fun k _ => h k⟩
theorem ev_succ {α : Type} {g : Nat → Option α} {r : α} (h : ∀ k, g (k + 1) = some r) : Ev g r := Ev.step h (Ev.now r)
/-- A call whose answer is known, and what follows. -/
theorem ev_bind {α β : Type} {g : Nat → Option α} {f : α → Nat → Option β} {a : α} {r : β} (h : Ev g a) (k : Ev (f a) r) : Ev (fun n => (g n).bind fun t => f t n) r :=
  Ev.bind (f := fun n t => f t n) h k
theorem ev_if {α : Type} {p : Prop} [Decidable p] {g f : Nat → Option α} {r : α} (hp : p) (k : Ev g r) : Ev (fun n => if p then g n else f n) r :=
  Ev.congr (fun n => if_pos hp) k
theorem ev_ifn {α : Type} {p : Prop} [Decidable p] {g f : Nat → Option α} {r : α} (hp : ¬ p) (k : Ev f r) : Ev (fun n => if p then g n else f n) r :=
  Ev.congr (fun n => if_neg hp) k
theorem ev_bind0 {α β : Type} {g : Option α} {f : α → Nat → Option β} {a : α} {r : β} (h : g = some a) (k : Ev (f a) r) : Ev (fun n => g.bind fun t => f t n) r := by
  subst h; exact k
theorem rd_mid (pre : List Int) (b : Int) (suf : List Int) : rd (pre ++ b :: suf) (pre.length : Int) = b := by
  unfold rd
  simp
theorem rd_at {l : List Int} {i : Int} (h0 : 0 ≤ i) (h1 : i < l.length) : rd l i = l[i.toNat]'(by omega) := by
  unfold rd
  rw [List.getD_eq_getElem?_getD, List.getElem?_eq_getElem (by omega)]; rfl
theorem split_at_len {α : Type} (l : List α) (n : Nat) (h : n ≤ l.length) : ∃ pre suf, l = pre ++ suf ∧ pre.length = n :=
  ⟨l.take n, l.drop n, (List.take_append_drop n l).symm, by simp; omega⟩

theorem spec_l1In_eq (a b c : Int) : spec_l1In.f a b c = some (decide (b ≤ a ∧ a ≤ c)) := by
  unfold spec_l1In.f
  by_cases h : a ≥ b
  · rw [if_pos h]; congr 1; rw [Bool.eq_iff_iff]; simp; omega
  · rw [if_neg h]; congr 1; symm; simp; omega
theorem impl_in_eq (a b c : Int) : impl_in.f a b c = some (decide (b ≤ a ∧ a ≤ c)) := by
  unfold impl_in.f
  by_cases h : a ≥ b
  · rw [if_pos h]; congr 1; rw [Bool.eq_iff_iff]; simp; omega
  · rw [if_neg h]; congr 1; symm; simp; omega

/-- The bytes of a right number. -/
def varB (n : Int) : List Int := if n < 253 then [n % 256] else [253, n % 256, n / 256 % 256]
theorem impl_putVar_eq (n : Int) : impl_putVar.f n = some (varB n) := by
  unfold impl_putVar.f varB; split <;> rfl
theorem spec_l3Put_eq {n : Int} (h1 : n ≤ 9223372036854775807) : spec_l3Put.f n = some (varB n) := by
  unfold spec_l3Put.f varB
  by_cases h : n < 253
  · rw [if_pos h, if_pos h]
  · rw [if_neg h, if_neg h, Int.tmod_eq_emod_of_nonneg (by omega), Int.tdiv_eq_ediv_of_nonneg (by omega), wrap_id (by omega) (by omega)]
    have : n % 256 % 256 = n % 256 := by omega
    rw [this]
theorem varB_len (n : Int) : (varB n).length ≤ 3 := by unfold varB; split <;> simp

theorem laws_eqByteS_l0 (suf : List Int) : ∀ (pre : List Int), (pre.length : Int) + suf.length ≤ 9223372036854775806 →
    Ev (fun k => laws_eqByteS.l0 k (pre ++ suf) (pre ++ suf) pre.length) true := by
  induction suf with
  | nil => intro pre _; exact ev_succ (fun k => by simp [laws_eqByteS.l0])
  | cons b suf ih =>
    intro pre hl
    simp only [List.length_cons, Int.natCast_add, Int.natCast_one] at hl
    have h := ih (pre ++ [b]) (by simp; omega)
    refine Ev.step (fun k => ?_) (by simpa using h)
    rw [laws_eqByteS.l0]
    rw [if_pos (by simp; omega), if_pos (by omega), if_pos (by simp; omega), if_pos rfl, wrap_id (by omega) (by omega)]
theorem laws_eqByteS_refl {l : List Int} (hl : l.length ≤ 140737488351232) : Ev (fun k => laws_eqByteS.f k l l) true := by
  unfold laws_eqByteS.f
  exact ev_if rfl (laws_eqByteS_l0 l [] (by simp; omega))

/-- The marks of bytes from k on. -/
def marks8 (k : Int) : Nat → List Int
  | 0 => []
  | n + 1 => (k % 256) :: marks8 (k + 1) n
theorem marks8_length (k : Int) (n : Nat) : (marks8 k n).length = n := by
  induction n generalizing k with
  | zero => rfl
  | succ n ih => simp [marks8, ih]
theorem laws_markByteS_l0 (suf : List Int) : ∀ (pre : List Int) (q : Int), 0 ≤ q → q + suf.length ≤ 9223372036854775806 → (pre.length : Int) + suf.length ≤ 9223372036854775806 →
    Ev (fun k => laws_markByteS.l0 k (pre ++ suf) q pre.length) (q + suf.length, pre ++ marks8 q suf.length) := by
  induction suf with
  | nil => intro pre q _ _ _; exact ev_succ (fun k => by simp [laws_markByteS.l0, marks8])
  | cons b suf ih =>
    intro pre q h0 hq hl
    simp only [List.length_cons, Int.natCast_add, Int.natCast_one] at hl hq
    have h := ih (pre ++ [q % 256]) (q + 1) (by omega) (by omega) (by simp; omega)
    refine Ev.step (f := fun k => laws_markByteS.l0 k (pre ++ [q % 256] ++ suf) (q + 1) ((pre ++ [q % 256]).length : Int)) (fun k => ?_) ?_
    · rw [laws_markByteS.l0]
      rw [if_pos (by simp; omega), if_pos (by omega), wrap_id (x := q + 1) (by omega) (by omega), wrap_id (by omega) (by omega)]
      simp
    · have e : ((q + ((b :: suf).length : Int), pre ++ marks8 q (b :: suf).length) : Int × List Int) = (q + 1 + (suf.length : Int), pre ++ [q % 256] ++ marks8 (q + 1) suf.length) := by
        simp [marks8]; omega
      rw [e]; exact h
theorem laws_markByteS_ev {l : List Int} {q : Int} (h0 : 0 ≤ q) (hq : q ≤ 4611686018427387904) (hl : l.length ≤ 140737488351232) : Ev (fun k => laws_markByteS.f k l q) (q + l.length, marks8 q l.length) := by
  have h := laws_markByteS_l0 l [] q h0 (by omega) (by simp; omega)
  unfold laws_markByteS.f
  simpa using h
theorem laws_heldByteS_l0 (n : Nat) : ∀ (pre : List Int) (q : Int), 0 ≤ q → q + n ≤ 9223372036854775806 → (pre.length : Int) + n ≤ 9223372036854775806 →
    Ev (fun k => laws_heldByteS.l0 k (pre ++ marks8 q n) q pre.length) (q + n) := by
  induction n with
  | zero => intro pre q _ _ _; exact ev_succ (fun k => by simp [laws_heldByteS.l0, marks8])
  | succ n ih =>
    intro pre q h0 hq hl
    simp only [Int.natCast_add, Int.natCast_one] at hl hq
    have h := ih (pre ++ [q % 256]) (q + 1) (by omega) (by omega) (by simp; omega)
    refine Ev.step (f := fun k => laws_heldByteS.l0 k (pre ++ [q % 256] ++ marks8 (q + 1) n) (q + 1) ((pre ++ [q % 256]).length : Int)) (fun k => ?_) ?_
    · rw [laws_heldByteS.l0, marks8]
      rw [if_pos (by simp [marks8_length]; omega), if_pos (by omega), rd_mid, if_pos rfl, wrap_id (x := q + 1) (by omega) (by omega), wrap_id (by omega) (by omega)]
      simp
    · have e : q + ((n + 1 : Nat) : Int) = q + 1 + (n : Int) := by omega
      rw [e]; exact h
theorem laws_heldByteS_ev {q : Int} {n : Nat} (h0 : 0 ≤ q) (hq : q ≤ 4611686018427387904) (hl : n ≤ 140737488351232) : Ev (fun k => laws_heldByteS.f k (marks8 q n) q) (q + n) := by
  have h := laws_heldByteS_l0 n [] q h0 (by omega) (by simp; omega)
  unfold laws_heldByteS.f
  simpa using h

theorem laws_eqBytesResult_refl (a : Int) {l : List Int} (hl : l.length ≤ 140737488351232) : Ev (fun k => laws_eqBytesResult.f k a l a l) true := by
  unfold laws_eqBytesResult.f
  exact ev_if rfl (ev_bind (laws_eqByteS_refl hl) (ev_if rfl (Ev.now _)))
theorem laws_markBytesResult_ev (a : Int) {l : List Int} {q : Int} (h0 : 0 ≤ q) (hq : q ≤ 4611686018427387904) (hl : l.length ≤ 140737488351232) : Ev (fun k => laws_markBytesResult.f k a l q) (q + l.length, marks8 q l.length) := by
  unfold laws_markBytesResult.f
  exact ev_bind (laws_markByteS_ev h0 hq hl) (Ev.now _)
theorem laws_heldBytesResult_ev (a : Int) {q : Int} {n : Nat} (h0 : 0 ≤ q) (hq : q ≤ 4611686018427387904) (hl : n ≤ 140737488351232) : Ev (fun k => laws_heldBytesResult.f k a (marks8 q n) q) (q + n) := by
  unfold laws_heldBytesResult.f
  exact ev_bind (laws_heldByteS_ev h0 hq hl) (ev_ifn (by omega) (Ev.now _))

theorem FnExactPutVar : laws_FnExactPutVar.Pure := by
  intro a ha
  refine Ev.rounds (g := fun k => laws_FnExactPutVar.f k a) ?_
  have e : spec_PutVar.f a = impl_PutVar.f a ∧ ∃ c l, impl_PutVar.f a = some (c, l) ∧ l.length ≤ 3 := by
    unfold spec_PutVar.f impl_PutVar.f
    simp only [spec_l1In_eq, impl_in_eq, Option.bind_some, impl_putVar_eq]
    by_cases h : 0 ≤ a ∧ a ≤ 65535
    · rw [spec_l3Put_eq (by omega)]
      exact ⟨rfl, _, _, if_pos (by simpa using h), varB_len a⟩
    · refine ⟨?_, _, _, if_neg (by simpa using h), by simp⟩
      rw [if_neg (by simpa using h), if_neg (by simpa using h)]
  obtain ⟨e1, c, l, e2, hl⟩ := e
  have hl' : l.length ≤ 140737488351232 := by omega
  unfold laws_FnExactPutVar.f
  refine ev_bind0 (e1.trans e2) (ev_bind0 e2 ?_)
  refine ev_bind (laws_eqBytesResult_refl _ hl') (ev_if rfl ?_)
  refine ev_bind (laws_markBytesResult_ev _ (by omega) (by omega) hl') ?_
  refine ev_bind (laws_heldBytesResult_ev _ (by omega) (by omega) hl') ?_
  refine ev_ifn (by omega) (ev_if rfl ?_)
  refine ev_bind0 e2 ?_
  refine ev_bind (laws_eqBytesResult_refl _ hl') (ev_if rfl ?_)
  refine ev_bind (laws_heldBytesResult_ev _ (by omega) (by omega) hl') ?_
  exact ev_ifn (by omega) (ev_if rfl (Ev.now _))

end Go.Proofs.Ytmjmcgheeljieaa.Pure
