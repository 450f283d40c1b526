/- for all int64 bits, WorkOf answers as the reference does. -/
import Derived.Test.YtdggjfakhhhbeaaQFnExactWorkOfx1
namespace Go.Proofs.Ytdggjfakhhhbeaa.Pure
open Go.RowKit Go.Proofs.Ytdggjfakhhhbeaa.QFnExactWorkOf Go.Proofs.YtdggjfakhhhbeaaW.PrintWords Go.Proofs.YtdggjfakhhhbeaaW.PrintLast
set_option linter.unusedVariables false
set_option linter.unusedSimpArgs false

theorem wrap_id {x : Int} (h1 : -9223372036854775808 ≤ x) (h2 : x ≤ 9223372036854775807) : wrap64 x = x := by
  unfold wrap64; omega
theorem wf64 {x : Int} (h : (Lit.int .i64 x).wf = true) : -9223372036854775808 ≤ x ∧ x ≤ 9223372036854775807 := by
  simpa [Lit.wf, IntKind.min, IntKind.max, IntKind.signed, IntKind.bits] using h
theorem wf8 {x : Int} (h : (Lit.int .u8 x).wf = true) : 0 ≤ x ∧ x ≤ 255 := by
  simpa [Lit.wf, IntKind.min, IntKind.max, IntKind.signed, IntKind.bits] using h
theorem ev_some {α : Type} {g : Nat → Option α} {r : α} (h : ∀ k, g k = some r) : Ev g r := ⟨0, fun k _ => h k⟩
theorem ev_succ {α : Type} {g : Nat → Option α} {r : α} (h : ∀ k, g (k + 1) = some r) : Ev g r := Ev.step h (Ev.now r)
/-- A call whose answer is known, and what follows. -/
theorem ev_bind {α β : Type} {g : Nat → Option α} {f : α → Nat → Option β} {a : α} {r : β} (h : Ev g a) (k : Ev (f a) r) : Ev (fun n => (g n).bind fun t => f t n) r :=
  Ev.bind (f := fun n t => f t n) h k
theorem ev_if {α : Type} {p : Prop} [Decidable p] {g f : Nat → Option α} {r : α} (hp : p) (k : Ev g r) : Ev (fun n => if p then g n else f n) r :=
  Ev.congr (fun n => if_pos hp) k
theorem ev_ifn {α : Type} {p : Prop} [Decidable p] {g f : Nat → Option α} {r : α} (hp : ¬ p) (k : Ev f r) : Ev (fun n => if p then g n else f n) r :=
  Ev.congr (fun n => if_neg hp) k
theorem ev_bind0 {α β : Type} {g : Option α} {f : α → Nat → Option β} {a : α} {r : β} (h : g = some a) (k : Ev (f a) r) : Ev (fun n => g.bind fun t => f t n) r := by
  subst h; exact k
theorem rd_mid (pre : List Int) (b : Int) (suf : List Int) : rd (pre ++ b :: suf) (pre.length : Int) = b := by
  unfold rd
  simp
theorem rd_at {l : List Int} {i : Int} (h0 : 0 ≤ i) (h1 : i < l.length) : rd l i = l[i.toNat]'(by omega) := by
  unfold rd
  rw [List.getD_eq_getElem?_getD, List.getElem?_eq_getElem (by omega)]; rfl
theorem split_at_len {α : Type} (l : List α) (n : Nat) (h : n ≤ l.length) : ∃ pre suf, l = pre ++ suf ∧ pre.length = n :=
  ⟨l.take n, l.drop n, (List.take_append_drop n l).symm, by simp; omega⟩

theorem spec_l1In_eq (a b c : Int) : spec_l1In.f a b c = some (decide (b ≤ a ∧ a ≤ c)) := by
  unfold spec_l1In.f
  by_cases h : a ≥ b
  · rw [if_pos h]; congr 1; rw [Bool.eq_iff_iff]; simp; omega
  · rw [if_neg h]; congr 1; symm; simp; omega
theorem impl_in_eq (a b c : Int) : impl_in.f a b c = some (decide (b ≤ a ∧ a ≤ c)) := by
  unfold impl_in.f
  by_cases h : a ≥ b
  · rw [if_pos h]; congr 1; rw [Bool.eq_iff_iff]; simp; omega
  · rw [if_neg h]; congr 1; symm; simp; omega

theorem spec_l1Bits_eq (a : Int) : spec_l1Bits.f a = some (decide (1 ≤ a ∧ a ≤ 1023 ∧ Int.tmod a 256 > 0)) := by
  unfold spec_l1Bits.f; rw [spec_l1In_eq]
  by_cases h : 1 ≤ a ∧ a ≤ 1023
  · simp [h]
  · simp only [Option.bind_some, h, decide_false, Bool.false_eq_true, if_false]; congr 1; symm; simp; omega

theorem impl_bitsOk_eq (a : Int) : impl_bitsOk.f a = some (decide (1 ≤ a ∧ a ≤ 1023 ∧ Int.tmod a 256 > 0)) := by
  unfold impl_bitsOk.f; rw [impl_in_eq]
  by_cases h : 1 ≤ a ∧ a ≤ 1023
  · simp [h]
  · simp only [Option.bind_some, h, decide_false, Bool.false_eq_true, if_false]; congr 1; symm; simp; omega

/-- The target of right bits. -/
def tgt (b : Int) : Int := (b % 256 + 1) * 2 ^ (7 * (b / 256)).toNat - 1
theorem spec_l1Target_all : ∀ n : Nat, n < 1024 → spec_l1Target.f (n : Int) = some (tgt n) := by decide +kernel
theorem impl_targetOf_all : ∀ n : Nat, n < 1024 → impl_targetOf.f (n : Int) = some (tgt n) := by decide +kernel
theorem spec_l1Target_eq {a : Int} (h0 : 0 ≤ a) (h1 : a ≤ 1023) : spec_l1Target.f a = some (tgt a) := by
  have e := spec_l1Target_all a.toNat (by omega)
  rwa [Int.toNat_of_nonneg h0] at e
theorem impl_targetOf_eq {a : Int} (h0 : 0 ≤ a) (h1 : a ≤ 1023) : impl_targetOf.f a = some (tgt a) := by
  have e := impl_targetOf_all a.toNat (by omega)
  rwa [Int.toNat_of_nonneg h0] at e

theorem laws_eqIntResult_eq (a b c d : Int) : laws_eqIntResult.f a b c d = some (decide (a = c ∧ b = d)) := by
  unfold laws_eqIntResult.f
  by_cases h : a = c <;> by_cases h2 : b = d <;> simp [h, h2]
theorem laws_eqIntResult_refl (a b : Int) : laws_eqIntResult.f a b a b = some true := by
  rw [laws_eqIntResult_eq]; simp

theorem work_all : ∀ n : Nat, n < 1024 → (impl_WorkOf.f (n : Int) = spec_WorkOf.f (n : Int) ∧ (spec_WorkOf.f (n : Int)).isSome = true) := by decide +kernel
theorem FnExactWorkOf : laws_FnExactWorkOf.Pure := by
  intro a ha
  unfold laws_FnExactWorkOf.f
  by_cases h : 1 ≤ a ∧ a ≤ 1023 ∧ Int.tmod a 256 > 0
  · have e := work_all a.toNat (by omega)
    rw [Int.toNat_of_nonneg (by omega)] at e
    obtain ⟨r, hr⟩ := Option.isSome_iff_exists.1 e.2
    rw [e.1, hr]
    simp [laws_eqIntResult_refl]
  · unfold spec_WorkOf.f impl_WorkOf.f
    simp only [spec_l1Bits_eq, impl_bitsOk_eq, Option.bind_some]
    simp [h, laws_eqIntResult_refl]

end Go.Proofs.Ytdggjfakhhhbeaa.Pure
