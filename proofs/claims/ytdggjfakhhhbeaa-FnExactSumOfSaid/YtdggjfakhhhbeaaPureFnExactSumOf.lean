/- for every slice of bytes, SumOf answers as the reference does and leaves its argument as it was. -/
import Derived.Test.YtdggjfakhhhbeaaPFnExactSumOfx1
namespace Go.Proofs.Ytdggjfakhhhbeaa.Pure
open Go.RowKit Go.Proofs.Ytdggjfakhhhbeaa.PFnExactSumOf Go.Proofs.YtdggjfakhhhbeaaW.PrintWords Go.Proofs.YtdggjfakhhhbeaaW.PrintLast
set_option linter.unusedVariables false
set_option linter.unusedSimpArgs false

theorem wrap_id {x : Int} (h1 : -9223372036854775808 ≤ x) (h2 : x ≤ 9223372036854775807) : wrap64 x = x := by
  unfold wrap64; omega
theorem wf64 {x : Int} (h : (Lit.int .i64 x).wf = true) : -9223372036854775808 ≤ x ∧ x ≤ 9223372036854775807 := by
  simpa [Lit.wf, IntKind.min, IntKind.max, IntKind.signed, IntKind.bits] using h
theorem wf8 {x : Int} (h : (Lit.int .u8 x).wf = true) : 0 ≤ x ∧ x ≤ 255 := by
  simpa [Lit.wf, IntKind.min, IntKind.max, IntKind.signed, IntKind.bits] using h
theorem ev_some {α : Type} {g : Nat → Option α} {r : α} (h : ∀ k, g k = some r) : Ev g r := ⟨0, fun k _ => h k⟩
theorem ev_succ {α : Type} {g : Nat → Option α} {r : α} (h : ∀ k, g (k + 1) = some r) : Ev g r := Ev.step h (Ev.now r)
/-- A call whose answer is known, and what follows. -/
theorem ev_bind {α β : Type} {g : Nat → Option α} {f : α → Nat → Option β} {a : α} {r : β} (h : Ev g a) (k : Ev (f a) r) : Ev (fun n => (g n).bind fun t => f t n) r :=
  Ev.bind (f := fun n t => f t n) h k
theorem ev_if {α : Type} {p : Prop} [Decidable p] {g f : Nat → Option α} {r : α} (hp : p) (k : Ev g r) : Ev (fun n => if p then g n else f n) r :=
  Ev.congr (fun n => if_pos hp) k
theorem ev_ifn {α : Type} {p : Prop} [Decidable p] {g f : Nat → Option α} {r : α} (hp : ¬ p) (k : Ev f r) : Ev (fun n => if p then g n else f n) r :=
  Ev.congr (fun n => if_neg hp) k
theorem ev_bind0 {α β : Type} {g : Option α} {f : α → Nat → Option β} {a : α} {r : β} (h : g = some a) (k : Ev (f a) r) : Ev (fun n => g.bind fun t => f t n) r := by
  subst h; exact k
theorem rd_mid (pre : List Int) (b : Int) (suf : List Int) : rd (pre ++ b :: suf) (pre.length : Int) = b := by
  unfold rd
  simp
theorem rd_at {l : List Int} {i : Int} (h0 : 0 ≤ i) (h1 : i < l.length) : rd l i = l[i.toNat]'(by omega) := by
  unfold rd
  rw [List.getD_eq_getElem?_getD, List.getElem?_eq_getElem (by omega)]; rfl
theorem split_at_len {α : Type} (l : List α) (n : Nat) (h : n ≤ l.length) : ∃ pre suf, l = pre ++ suf ∧ pre.length = n :=
  ⟨l.take n, l.drop n, (List.take_append_drop n l).symm, by simp; omega⟩

/-- One byte more in a sum. -/
def stepS (a b : Int) : Int := (33 * a + b + 1) % 2147483647
/-- The sum of bytes. -/
def sumB (l : List Int) : Int := l.foldl stepS 5381
def Bytes (l : List Int) : Prop := ∀ x ∈ l, 0 ≤ x ∧ x ≤ 255
theorem stepS_bd (a b : Int) : 0 ≤ stepS a b ∧ stepS a b < 2147483647 := by unfold stepS; omega
theorem sumB_bd_go (l : List Int) : ∀ a : Int, 0 ≤ a → a < 2147483647 → 0 ≤ l.foldl stepS a ∧ l.foldl stepS a < 2147483647 := by
  induction l with
  | nil => intro a h0 h1; exact ⟨h0, h1⟩
  | cons b l ih => intro a _ _; exact ih _ (stepS_bd a b).1 (stepS_bd a b).2
theorem sumB_bd (l : List Int) : 0 ≤ sumB l ∧ sumB l ≤ 2147483646 := by
  have := sumB_bd_go l 5381 (by omega) (by omega)
  unfold sumB; omega
theorem step_wrap {a b : Int} (h0 : 0 ≤ a) (h1 : a < 2147483647) (hb : 0 ≤ b ∧ b ≤ 255) :
    Int.tmod (wrap64 ((wrap64 ((wrap64 (a * 33)) + (wrap64 b))) + 1)) 2147483647 = stepS a b := by
  rw [wrap_id (x := a * 33) (by omega) (by omega), wrap_id (x := b) (by omega) (by omega), wrap_id (x := a * 33 + b) (by omega) (by omega), wrap_id (x := a * 33 + b + 1) (by omega) (by omega), Int.tmod_eq_emod_of_nonneg (by omega)]
  unfold stepS; rw [Int.mul_comm a 33]
theorem spec_l1Sum_l0 (suf : List Int) : ∀ (pre : List Int) (a : Int), 0 ≤ a → a < 2147483647 → Bytes suf → (pre.length : Int) + suf.length ≤ 9223372036854775806 →
    Ev (fun k => spec_l1Sum.l0 k (pre ++ suf) a pre.length) (suf.foldl stepS a) := by
  induction suf with
  | nil => intro pre a _ _ _ _; exact ev_succ (fun k => by simp [spec_l1Sum.l0])
  | cons b suf ih =>
    intro pre a h0 h1 hb hl
    have hb0 := hb b List.mem_cons_self
    simp only [List.length_cons, Int.natCast_add, Int.natCast_one] at hl
    have h := ih (pre ++ [b]) (stepS a b) (stepS_bd a b).1 (stepS_bd a b).2 (fun x hx => hb x (List.mem_cons_of_mem _ hx)) (by simp; omega)
    refine Ev.step (fun k => ?_) h
    rw [spec_l1Sum.l0]
    rw [if_pos (by simp; omega), if_pos (by omega), rd_mid, step_wrap h0 h1 hb0, wrap_id (by omega) (by omega)]
    simp
theorem spec_l1Sum_ev {l : List Int} (hb : Bytes l) (hl : (l.length : Int) ≤ 9223372036854775806) : Ev (fun k => spec_l1Sum.f k l) (sumB l) :=
  spec_l1Sum_l0 l [] 5381 (by omega) (by omega) hb (by simpa using hl)
theorem impl_sumOf_l0 (suf : List Int) : ∀ (pre : List Int) (a : Int), 0 ≤ a → a < 2147483647 → Bytes suf → (pre.length : Int) + suf.length ≤ 9223372036854775806 →
    Ev (fun k => impl_sumOf.l0 k a (pre ++ suf) ((pre ++ suf).length : Int) pre.length) (suf.foldl stepS a) := by
  induction suf with
  | nil => intro pre a _ _ _ _; exact ev_succ (fun k => by simp [impl_sumOf.l0])
  | cons b suf ih =>
    intro pre a h0 h1 hb hl
    have hb0 := hb b List.mem_cons_self
    simp only [List.length_cons, Int.natCast_add, Int.natCast_one] at hl
    have h := ih (pre ++ [b]) (stepS a b) (stepS_bd a b).1 (stepS_bd a b).2 (fun x hx => hb x (List.mem_cons_of_mem _ hx)) (by simp; omega)
    refine Ev.step (fun k => ?_) h
    rw [impl_sumOf.l0]
    rw [if_pos (by simp; omega), if_pos (by omega), if_pos (by simp; omega), rd_mid, Int.mul_comm 33 a, step_wrap h0 h1 hb0, wrap_id (by omega) (by omega)]
    simp
theorem impl_sumOf_ev {l : List Int} (hb : Bytes l) (hl : (l.length : Int) ≤ 9223372036854775806) : Ev (fun k => impl_sumOf.f k l) (sumB l) :=
  impl_sumOf_l0 l [] 5381 (by omega) (by omega) hb (by simpa using hl)

theorem laws_toByteS_l0 (suf : List Int) : ∀ (pre : List Int) (z : List Int), z.length = suf.length → (pre.length : Int) + suf.length ≤ 9223372036854775806 →
    Ev (fun k => laws_toByteS.l0 k (pre ++ suf) (pre ++ z) pre.length) (pre ++ suf) := by
  induction suf with
  | nil => intro pre z hz _; obtain rfl : z = [] := List.eq_nil_of_length_eq_zero (by simpa using hz); exact ev_succ (fun k => by simp [laws_toByteS.l0])
  | cons b suf ih =>
    intro pre z hz hl
    obtain ⟨c, z, rfl⟩ : ∃ c z', z = c :: z' := by cases z with | nil => simp at hz | cons c z => exact ⟨c, z, rfl⟩
    simp only [List.length_cons, Int.natCast_add, Int.natCast_one] at hl hz
    have h := ih (pre ++ [b]) z (by omega) (by simp; omega)
    refine Ev.step (fun k => ?_) (by simpa using h)
    rw [laws_toByteS.l0]
    rw [if_pos (by simp; omega), if_pos (by omega), if_pos (by simp; omega), rd_mid, wrap_id (by omega) (by omega)]
    simp
theorem laws_toByteS_ev {l : List Int} (hl : l.length ≤ 140737488351232) : Ev (fun k => laws_toByteS.f k l) l := by
  have h := laws_toByteS_l0 l [] (List.replicate l.length 0) (by simp) (by simp; omega)
  unfold laws_toByteS.f
  refine ev_if (by omega) (ev_if (by simp; omega) ?_)
  simpa using h
theorem laws_eqByteS_l0 (suf : List Int) : ∀ (pre : List Int), (pre.length : Int) + suf.length ≤ 9223372036854775806 →
    Ev (fun k => laws_eqByteS.l0 k (pre ++ suf) (pre ++ suf) pre.length) true := by
  induction suf with
  | nil => intro pre _; exact ev_succ (fun k => by simp [laws_eqByteS.l0])
  | cons b suf ih =>
    intro pre hl
    simp only [List.length_cons, Int.natCast_add, Int.natCast_one] at hl
    have h := ih (pre ++ [b]) (by simp; omega)
    refine Ev.step (fun k => ?_) (by simpa using h)
    rw [laws_eqByteS.l0]
    rw [if_pos (by simp; omega), if_pos (by omega), if_pos (by simp; omega), if_pos rfl, wrap_id (by omega) (by omega)]
theorem laws_eqByteS_refl {l : List Int} (hl : l.length ≤ 140737488351232) : Ev (fun k => laws_eqByteS.f k l l) true := by
  unfold laws_eqByteS.f
  exact ev_if rfl (laws_eqByteS_l0 l [] (by simp; omega))

theorem laws_eqIntResult_eq (a b c d : Int) : laws_eqIntResult.f a b c d = some (decide (a = c ∧ b = d)) := by
  unfold laws_eqIntResult.f
  by_cases h : a = c <;> by_cases h2 : b = d <;> simp [h, h2]
theorem laws_eqIntResult_refl (a b : Int) : laws_eqIntResult.f a b a b = some true := by
  rw [laws_eqIntResult_eq]; simp

theorem spec_SumOf_ev {l : List Int} (hb : Bytes l) (hl : l.length ≤ 140737488351232) : Ev (fun k => spec_SumOf.f k l) (if (l.length : Int) > 4000 then (2, 0) else (0, sumB l)) := by
  unfold spec_SumOf.f
  by_cases h : (l.length : Int) > 4000
  · rw [if_pos h]; exact ev_if h (Ev.now _)
  · rw [if_neg h]; exact ev_ifn h (ev_bind (spec_l1Sum_ev hb (by omega)) (Ev.now _))
theorem impl_SumOf_ev {l : List Int} (hb : Bytes l) (hl : l.length ≤ 140737488351232) : Ev (fun k => impl_SumOf.f k l) (if (l.length : Int) > 4000 then (2, 0) else (0, sumB l)) := by
  unfold impl_SumOf.f
  by_cases h : (l.length : Int) > 4000
  · rw [if_pos h]; exact ev_if h (Ev.now _)
  · rw [if_neg h]; exact ev_ifn h (ev_bind (impl_sumOf_ev hb (by omega)) (Ev.now _))
theorem FnExactSumOf : laws_FnExactSumOf.Pure := by
  intro l hm hl hw
  have hb : Bytes l := fun x hx => wf8 (hw x hx)
  have hl' : l.length ≤ 140737488351232 := by omega
  refine Ev.rounds (g := fun k => laws_FnExactSumOf.f k l) ?_
  unfold laws_FnExactSumOf.f
  by_cases hc : (l.length : Int) > 1048576
  · exact ev_if hc (Ev.now _)
  refine ev_ifn hc ?_
  refine ev_bind (laws_toByteS_ev hl') ?_
  refine ev_bind (spec_SumOf_ev hb hl') ?_
  refine ev_bind (laws_toByteS_ev hl') ?_
  refine ev_bind (impl_SumOf_ev hb hl') ?_
  refine ev_bind0 (laws_eqIntResult_refl _ _) ?_
  refine ev_if rfl ?_
  refine ev_bind (laws_toByteS_ev hl') ?_
  refine ev_bind (laws_eqByteS_refl hl') ?_
  exact ev_if rfl (Ev.now _)

end Go.Proofs.Ytdggjfakhhhbeaa.Pure
