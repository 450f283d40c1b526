/- for all int64 a and b, AddMoney answers as the reference does. -/
import Derived.Test.YtdggjfakhhhbeaaPFnExactAddMoneyx1
namespace Go.Proofs.Ytdggjfakhhhbeaa.Pure
open Go.RowKit Go.Proofs.Ytdggjfakhhhbeaa.PFnExactAddMoney Go.Proofs.YtdggjfakhhhbeaaW.PrintWords Go.Proofs.YtdggjfakhhhbeaaW.PrintLast
set_option linter.unusedVariables false
set_option linter.unusedSimpArgs false

theorem wrap_id {x : Int} (h1 : -9223372036854775808 ≤ x) (h2 : x ≤ 9223372036854775807) : wrap64 x = x := by
  unfold wrap64; omega
theorem wf64 {x : Int} (h : (Lit.int .i64 x).wf = true) : -9223372036854775808 ≤ x ∧ x ≤ 9223372036854775807 := by
  simpa [Lit.wf, IntKind.min, IntKind.max, IntKind.signed, IntKind.bits] using h
theorem wf8 {x : Int} (h : (Lit.int .u8 x).wf = true) : 0 ≤ x ∧ x ≤ 255 := by
  simpa [Lit.wf, IntKind.min, IntKind.max, IntKind.signed, IntKind.bits] using h
theorem ev_some {α : Type} {g : Nat → Option α} {r : α} (h : ∀ k, g k = some r) : Ev g r := ⟨0, fun k _ => h k⟩
theorem ev_succ {α : Type} {g : Nat → Option α} {r : α} (h : ∀ k, g (k + 1) = some r) : Ev g r := Ev.step h (Ev.now r)
/-- A call whose answer is known, and what follows. -/
theorem ev_bind {α β : Type} {g : Nat → Option α} {f : α → Nat → Option β} {a : α} {r : β} (h : Ev g a) (k : Ev (f a) r) : Ev (fun n => (g n).bind fun t => f t n) r :=
  Ev.bind (f := fun n t => f t n) h k
theorem ev_if {α : Type} {p : Prop} [Decidable p] {g f : Nat → Option α} {r : α} (hp : p) (k : Ev g r) : Ev (fun n => if p then g n else f n) r :=
  Ev.congr (fun n => if_pos hp) k
theorem ev_ifn {α : Type} {p : Prop} [Decidable p] {g f : Nat → Option α} {r : α} (hp : ¬ p) (k : Ev f r) : Ev (fun n => if p then g n else f n) r :=
  Ev.congr (fun n => if_neg hp) k
theorem ev_bind0 {α β : Type} {g : Option α} {f : α → Nat → Option β} {a : α} {r : β} (h : g = some a) (k : Ev (f a) r) : Ev (fun n => g.bind fun t => f t n) r := by
  subst h; exact k
theorem rd_mid (pre : List Int) (b : Int) (suf : List Int) : rd (pre ++ b :: suf) (pre.length : Int) = b := by
  unfold rd
  simp
theorem rd_at {l : List Int} {i : Int} (h0 : 0 ≤ i) (h1 : i < l.length) : rd l i = l[i.toNat]'(by omega) := by
  unfold rd
  rw [List.getD_eq_getElem?_getD, List.getElem?_eq_getElem (by omega)]; rfl
theorem split_at_len {α : Type} (l : List α) (n : Nat) (h : n ≤ l.length) : ∃ pre suf, l = pre ++ suf ∧ pre.length = n :=
  ⟨l.take n, l.drop n, (List.take_append_drop n l).symm, by simp; omega⟩

theorem spec_l1In_eq (a b c : Int) : spec_l1In.f a b c = some (decide (b ≤ a ∧ a ≤ c)) := by
  unfold spec_l1In.f
  by_cases h : a ≥ b
  · rw [if_pos h]; congr 1; rw [Bool.eq_iff_iff]; simp; omega
  · rw [if_neg h]; congr 1; symm; simp; omega
theorem impl_in_eq (a b c : Int) : impl_in.f a b c = some (decide (b ≤ a ∧ a ≤ c)) := by
  unfold impl_in.f
  by_cases h : a ≥ b
  · rw [if_pos h]; congr 1; rw [Bool.eq_iff_iff]; simp; omega
  · rw [if_neg h]; congr 1; symm; simp; omega

theorem spec_l1Amount_eq (a : Int) : spec_l1Amount.f a = some (decide (0 ≤ a ∧ a ≤ 1000000)) := by
  unfold spec_l1Amount.f; rw [spec_l1In_eq]; rfl
theorem impl_isAmount_eq (a : Int) : impl_isAmount.f a = some (decide (0 ≤ a ∧ a ≤ 1000000)) := by
  unfold impl_isAmount.f; rw [impl_in_eq]; rfl

theorem laws_eqIntResult_eq (a b c d : Int) : laws_eqIntResult.f a b c d = some (decide (a = c ∧ b = d)) := by
  unfold laws_eqIntResult.f
  by_cases h : a = c <;> by_cases h2 : b = d <;> simp [h, h2]
theorem laws_eqIntResult_refl (a b : Int) : laws_eqIntResult.f a b a b = some true := by
  rw [laws_eqIntResult_eq]; simp

theorem FnExactAddMoney : laws_FnExactAddMoney.Pure := by
  intro a b ha hb
  refine ⟨1, ?_⟩
  unfold laws_FnExactAddMoney.f spec_AddMoney.f impl_AddMoney.f
  simp only [spec_AddMoney.j0, impl_AddMoney.j0, spec_l1Amount_eq, impl_isAmount_eq, Option.bind_some]
  by_cases h1 : 0 ≤ a ∧ a ≤ 1000000
  · by_cases h2 : 0 ≤ b ∧ b ≤ 1000000
    · by_cases h3 : 0 ≤ wrap64 (a + b) ∧ wrap64 (a + b) ≤ 1000000
      · simp [h1, h2, h3, laws_eqIntResult_refl]
      · simp [h1, h2, h3, laws_eqIntResult_refl]
    · simp [h1, h2, laws_eqIntResult_refl]
  · simp [h1, laws_eqIntResult_refl]

end Go.Proofs.Ytdggjfakhhhbeaa.Pure
