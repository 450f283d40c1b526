/- for all int64 key and text, SignOf answers as the reference does. -/
import Derived.Test.YtdggjfakhhhbeaaPFnExactSignOfx2
namespace Go.Proofs.Ytdggjfakhhhbeaa.Pure
open Go.RowKit Go.Proofs.Ytdggjfakhhhbeaa.PFnExactSignOf Go.Proofs.YtdggjfakhhhbeaaW.PrintWords Go.Proofs.YtdggjfakhhhbeaaW.PrintLast
set_option linter.unusedVariables false
set_option linter.unusedSimpArgs false

theorem wrap_id {x : Int} (h1 : -9223372036854775808 ≤ x) (h2 : x ≤ 9223372036854775807) : wrap64 x = x := by
  unfold wrap64; omega
theorem wf64 {x : Int} (h : (Lit.int .i64 x).wf = true) : -9223372036854775808 ≤ x ∧ x ≤ 9223372036854775807 := by
  simpa [Lit.wf, IntKind.min, IntKind.max, IntKind.signed, IntKind.bits] using h
theorem wf8 {x : Int} (h : (Lit.int .u8 x).wf = true) : 0 ≤ x ∧ x ≤ 255 := by
  simpa [Lit.wf, IntKind.min, IntKind.max, IntKind.signed, IntKind.bits] using h
theorem ev_some {α : Type} {g : Nat → Option α} {r : α} (h : ∀ k, g k = some r) : Ev g r := ⟨0, fun k _ => h k⟩
theorem ev_succ {α : Type} {g : Nat → Option α} {r : α} (h : ∀ k, g (k + 1) = some r) : Ev g r := Ev.step h (Ev.now r)
/-- A call whose answer is known, and what follows. -/
theorem ev_bind {α β : Type} {g : Nat → Option α} {f : α → Nat → Option β} {a : α} {r : β} (h : Ev g a) (k : Ev (f a) r) : Ev (fun n => (g n).bind fun t => f t n) r :=
  Ev.bind (f := fun n t => f t n) h k
theorem ev_if {α : Type} {p : Prop} [Decidable p] {g f : Nat → Option α} {r : α} (hp : p) (k : Ev g r) : Ev (fun n => if p then g n else f n) r :=
  Ev.congr (fun n => if_pos hp) k
theorem ev_ifn {α : Type} {p : Prop} [Decidable p] {g f : Nat → Option α} {r : α} (hp : ¬ p) (k : Ev f r) : Ev (fun n => if p then g n else f n) r :=
  Ev.congr (fun n => if_neg hp) k
theorem ev_bind0 {α β : Type} {g : Option α} {f : α → Nat → Option β} {a : α} {r : β} (h : g = some a) (k : Ev (f a) r) : Ev (fun n => g.bind fun t => f t n) r := by
  subst h; exact k
theorem rd_mid (pre : List Int) (b : Int) (suf : List Int) : rd (pre ++ b :: suf) (pre.length : Int) = b := by
  unfold rd
  simp
theorem rd_at {l : List Int} {i : Int} (h0 : 0 ≤ i) (h1 : i < l.length) : rd l i = l[i.toNat]'(by omega) := by
  unfold rd
  rw [List.getD_eq_getElem?_getD, List.getElem?_eq_getElem (by omega)]; rfl
theorem split_at_len {α : Type} (l : List α) (n : Nat) (h : n ≤ l.length) : ∃ pre suf, l = pre ++ suf ∧ pre.length = n :=
  ⟨l.take n, l.drop n, (List.take_append_drop n l).symm, by simp; omega⟩

/-- One byte more in a sum. -/
def stepS (a b : Int) : Int := (33 * a + b + 1) % 2147483647
/-- The sum of bytes. -/
def sumB (l : List Int) : Int := l.foldl stepS 5381
def Bytes (l : List Int) : Prop := ∀ x ∈ l, 0 ≤ x ∧ x ≤ 255
theorem stepS_bd (a b : Int) : 0 ≤ stepS a b ∧ stepS a b < 2147483647 := by unfold stepS; omega
theorem sumB_bd_go (l : List Int) : ∀ a : Int, 0 ≤ a → a < 2147483647 → 0 ≤ l.foldl stepS a ∧ l.foldl stepS a < 2147483647 := by
  induction l with
  | nil => intro a h0 h1; exact ⟨h0, h1⟩
  | cons b l ih => intro a _ _; exact ih _ (stepS_bd a b).1 (stepS_bd a b).2
theorem sumB_bd (l : List Int) : 0 ≤ sumB l ∧ sumB l ≤ 2147483646 := by
  have := sumB_bd_go l 5381 (by omega) (by omega)
  unfold sumB; omega
theorem step_wrap {a b : Int} (h0 : 0 ≤ a) (h1 : a < 2147483647) (hb : 0 ≤ b ∧ b ≤ 255) :
    Int.tmod (wrap64 ((wrap64 ((wrap64 (a * 33)) + (wrap64 b))) + 1)) 2147483647 = stepS a b := by
  rw [wrap_id (x := a * 33) (by omega) (by omega), wrap_id (x := b) (by omega) (by omega), wrap_id (x := a * 33 + b) (by omega) (by omega), wrap_id (x := a * 33 + b + 1) (by omega) (by omega), Int.tmod_eq_emod_of_nonneg (by omega)]
  unfold stepS; rw [Int.mul_comm a 33]
theorem spec_l1Sum_l0 (suf : List Int) : ∀ (pre : List Int) (a : Int), 0 ≤ a → a < 2147483647 → Bytes suf → (pre.length : Int) + suf.length ≤ 9223372036854775806 →
    Ev (fun k => spec_l1Sum.l0 k (pre ++ suf) a pre.length) (suf.foldl stepS a) := by
  induction suf with
  | nil => intro pre a _ _ _ _; exact ev_succ (fun k => by simp [spec_l1Sum.l0])
  | cons b suf ih =>
    intro pre a h0 h1 hb hl
    have hb0 := hb b List.mem_cons_self
    simp only [List.length_cons, Int.natCast_add, Int.natCast_one] at hl
    have h := ih (pre ++ [b]) (stepS a b) (stepS_bd a b).1 (stepS_bd a b).2 (fun x hx => hb x (List.mem_cons_of_mem _ hx)) (by simp; omega)
    refine Ev.step (fun k => ?_) h
    rw [spec_l1Sum.l0]
    rw [if_pos (by simp; omega), if_pos (by omega), rd_mid, step_wrap h0 h1 hb0, wrap_id (by omega) (by omega)]
    simp
theorem spec_l1Sum_ev {l : List Int} (hb : Bytes l) (hl : (l.length : Int) ≤ 9223372036854775806) : Ev (fun k => spec_l1Sum.f k l) (sumB l) :=
  spec_l1Sum_l0 l [] 5381 (by omega) (by omega) hb (by simpa using hl)
theorem impl_sumOf_l0 (suf : List Int) : ∀ (pre : List Int) (a : Int), 0 ≤ a → a < 2147483647 → Bytes suf → (pre.length : Int) + suf.length ≤ 9223372036854775806 →
    Ev (fun k => impl_sumOf.l0 k a (pre ++ suf) ((pre ++ suf).length : Int) pre.length) (suf.foldl stepS a) := by
  induction suf with
  | nil => intro pre a _ _ _ _; exact ev_succ (fun k => by simp [impl_sumOf.l0])
  | cons b suf ih =>
    intro pre a h0 h1 hb hl
    have hb0 := hb b List.mem_cons_self
    simp only [List.length_cons, Int.natCast_add, Int.natCast_one] at hl
    have h := ih (pre ++ [b]) (stepS a b) (stepS_bd a b).1 (stepS_bd a b).2 (fun x hx => hb x (List.mem_cons_of_mem _ hx)) (by simp; omega)
    refine Ev.step (fun k => ?_) h
    rw [impl_sumOf.l0]
    rw [if_pos (by simp; omega), if_pos (by omega), if_pos (by simp; omega), rd_mid, Int.mul_comm 33 a, step_wrap h0 h1 hb0, wrap_id (by omega) (by omega)]
    simp
theorem impl_sumOf_ev {l : List Int} (hb : Bytes l) (hl : (l.length : Int) ≤ 9223372036854775806) : Ev (fun k => impl_sumOf.f k l) (sumB l) :=
  impl_sumOf_l0 l [] 5381 (by omega) (by omega) hb (by simpa using hl)

/-- The four bytes of a number. -/
def be4 (n : Int) : List Int := [n / 16777216 % 256, n / 65536 % 256, n / 256 % 256, n % 256]
theorem be4_bytes (n : Int) : Bytes (be4 n) := by
  intro x hx
  simp only [be4, List.mem_cons, List.not_mem_nil, or_false] at hx
  rcases hx with rfl | rfl | rfl | rfl <;> omega
theorem Bytes.app {a b : List Int} (ha : Bytes a) (hb : Bytes b) : Bytes (a ++ b) := by
  intro x hx; rcases List.mem_append.1 hx with h | h
  · exact ha x h
  · exact hb x h
/-- The sum of numbers. -/
def sumI (l : List Int) : Int := sumB (l.flatMap be4)
theorem sumI_bd (l : List Int) : 0 ≤ sumI l ∧ sumI l ≤ 2147483646 := sumB_bd _
theorem spec_l1SumInts_l0 (suf : List Int) : ∀ (pre acc : List Int), Bytes acc → (acc.length : Int) + 4 * suf.length < 140737488355328 → (pre.length : Int) + suf.length ≤ 9223372036854775806 →
    Ev (fun k => spec_l1SumInts.l0 k (pre ++ suf) acc pre.length) (sumB (acc ++ suf.flatMap be4)) := by
  induction suf with
  | nil =>
    intro pre acc hb hl _
    simp only [List.append_nil, List.flatMap_nil]
    refine Ev.step (f := fun k => (spec_l1Sum.f k acc).bind fun t => some t) (fun k => by rw [spec_l1SumInts.l0]; rw [if_neg (by omega)]) ?_
    exact ev_bind (spec_l1Sum_ev hb (by simp at hl; omega)) (Ev.now _)
  | cons b suf ih =>
    intro pre acc hb hl hp
    simp only [List.length_cons, Int.natCast_add, Int.natCast_one] at hl hp
    have h := ih (pre ++ [b]) (acc ++ be4 b) (hb.app (be4_bytes b)) (by simp [be4]; omega) (by simp; omega)
    refine Ev.step (fun k => ?_) (by simpa using h)
    rw [spec_l1SumInts.l0]
    rw [if_pos (by simp; omega), if_pos (by omega), rd_mid]
    simp only [spec_l1Four.f, Option.bind_some]
    rw [if_pos (by simp; omega), wrap_id (by omega) (by omega)]
    simp [be4]
theorem spec_l1SumInts_ev {l : List Int} (hl : l.length ≤ 1000) : Ev (fun k => spec_l1SumInts.f k l) (sumI l) :=
  spec_l1SumInts_l0 l [] [] (by intro x hx; cases hx) (by simp; omega) (by simp; omega)
theorem impl_high_ev (a : Int) : Ev (fun k => impl_high.f k a 4) (be4 a) := by
  refine Ev.of (impl_high.mono a 4) (k := 5) ?_
  have w3 : wrap64 (3) = 3 := wrap_id (by omega) (by omega)
  have w2 : wrap64 (2) = 2 := wrap_id (by omega) (by omega)
  have w1 : wrap64 (1) = 1 := wrap_id (by omega) (by omega)
  have w0 : wrap64 (0) = 0 := wrap_id (by omega) (by omega)
  have wm : wrap64 (-1) = -1 := wrap_id (by omega) (by omega)
  have d1 : a / 256 / 256 = a / 65536 := by omega
  have d2 : a / 65536 / 256 = a / 16777216 := by omega
  simp [impl_high.f, impl_high.l0, w3, w2, w1, w0, wm, be4, List.replicate, d1, d2]
theorem impl_sumInts_l0 (suf : List Int) : ∀ (pre acc : List Int), Bytes acc → (acc.length : Int) + 4 * suf.length < 140737488355328 → (pre.length : Int) + suf.length ≤ 9223372036854775806 →
    Ev (fun k => impl_sumInts.l0 k acc (pre ++ suf) ((pre ++ suf).length : Int) pre.length) (sumB (acc ++ suf.flatMap be4)) := by
  induction suf with
  | nil =>
    intro pre acc hb hl _
    simp only [List.append_nil, List.flatMap_nil]
    refine Ev.step (f := fun k => (impl_sumOf.f k acc).bind fun t => some t) (fun k => by rw [impl_sumInts.l0]; rw [if_neg (by omega)]) ?_
    exact ev_bind (impl_sumOf_ev hb (by simp at hl; omega)) (Ev.now _)
  | cons b suf ih =>
    intro pre acc hb hl hp
    simp only [List.length_cons, Int.natCast_add, Int.natCast_one] at hl hp
    have h := ih (pre ++ [b]) (acc ++ be4 b) (hb.app (be4_bytes b)) (by simp [be4]; omega) (by simp; omega)
    refine Ev.step (f := fun k => (impl_high.f k b 4).bind fun t => if acc.length + t.length < 140737488355328 then impl_sumInts.l0 k (acc ++ t) (pre ++ b :: suf) ((pre ++ b :: suf).length : Int) ((pre.length : Int) + 1) else none) (fun k => ?_) ?_
    · rw [impl_sumInts.l0]
      rw [if_pos (by simp; omega), if_pos (by omega), if_pos (by simp; omega), rd_mid, wrap_id (by omega) (by omega)]
    · refine ev_bind (impl_high_ev b) (ev_if (by simp [be4]; omega) ?_)
      simpa using h
theorem impl_sumInts_ev {l : List Int} (hl : l.length ≤ 1000) : Ev (fun k => impl_sumInts.f k l) (sumI l) :=
  impl_sumInts_l0 l [] [] (by intro x hx; cases hx) (by simp; omega) (by simp; omega)

theorem spec_l1In_eq (a b c : Int) : spec_l1In.f a b c = some (decide (b ≤ a ∧ a ≤ c)) := by
  unfold spec_l1In.f
  by_cases h : a ≥ b
  · rw [if_pos h]; congr 1; rw [Bool.eq_iff_iff]; simp; omega
  · rw [if_neg h]; congr 1; symm; simp; omega
theorem impl_in_eq (a b c : Int) : impl_in.f a b c = some (decide (b ≤ a ∧ a ≤ c)) := by
  unfold impl_in.f
  by_cases h : a ≥ b
  · rw [if_pos h]; congr 1; rw [Bool.eq_iff_iff]; simp; omega
  · rw [if_neg h]; congr 1; symm; simp; omega

theorem impl_isSum_eq (a : Int) : impl_isSum.f a = some (decide (0 ≤ a ∧ a ≤ 2147483646)) := by
  unfold impl_isSum.f; rw [impl_in_eq]; rfl

theorem spec_l2Key_eq (a : Int) : spec_l2Key.f a = some (decide (0 ≤ a ∧ a ≤ 899)) := by
  unfold spec_l2Key.f; rw [spec_l1In_eq]; rfl
theorem impl_isKey_eq (a : Int) : impl_isKey.f a = some (decide (0 ≤ a ∧ a ≤ 899)) := by
  unfold impl_isKey.f; rw [impl_in_eq]; rfl

theorem laws_eqIntResult_eq (a b c d : Int) : laws_eqIntResult.f a b c d = some (decide (a = c ∧ b = d)) := by
  unfold laws_eqIntResult.f
  by_cases h : a = c <;> by_cases h2 : b = d <;> simp [h, h2]
theorem laws_eqIntResult_refl (a b : Int) : laws_eqIntResult.f a b a b = some true := by
  rw [laws_eqIntResult_eq]; simp

def signV (a b : Int) : Int × Int := if (0 ≤ a ∧ a ≤ 899) ∧ (0 ≤ b ∧ b ≤ 2147483646) then (0, Int.tmod (sumI [a, b, 7]) 1000) else (3, 0)
theorem spec_SignOf_ev (a b : Int) : Ev (fun k => spec_SignOf.f k a b) (signV a b) := by
  unfold spec_SignOf.f signV spec_l2Sign.f
  simp only [spec_l2Key_eq, spec_l1In_eq, Option.bind_some, decide_eq_true_eq]
  by_cases h1 : 0 ≤ a ∧ a ≤ 899
  · by_cases h2 : 0 ≤ b ∧ b ≤ 2147483646
    · rw [if_pos ⟨h1, h2⟩]; exact ev_if h1 (ev_if h2 (ev_bind (ev_bind (spec_l1SumInts_ev (by simp)) (Ev.now _)) (Ev.now _)))
    · rw [if_neg (fun h => h2 h.2)]; exact ev_if h1 (ev_ifn h2 (Ev.now _))
  · rw [if_neg (fun h => h1 h.1)]; exact ev_ifn h1 (Ev.now _)
theorem impl_SignOf_ev (a b : Int) : Ev (fun k => impl_SignOf.f k a b) (signV a b) := by
  unfold impl_SignOf.f signV impl_signOf.f
  simp only [impl_isKey_eq, impl_isSum_eq, Option.bind_some, decide_eq_true_eq]
  by_cases h1 : 0 ≤ a ∧ a ≤ 899
  · by_cases h2 : 0 ≤ b ∧ b ≤ 2147483646
    · rw [if_pos ⟨h1, h2⟩]; exact ev_if h1 (ev_if h2 (ev_bind (ev_bind (impl_sumInts_ev (by simp)) (Ev.now _)) (Ev.now _)))
    · rw [if_neg (fun h => h2 h.2)]; exact ev_if h1 (ev_ifn h2 (Ev.now _))
  · rw [if_neg (fun h => h1 h.1)]; exact ev_ifn h1 (Ev.now _)
theorem FnExactSignOf : laws_FnExactSignOf.Pure := by
  intro a b ha hb
  refine Ev.rounds (g := fun k => laws_FnExactSignOf.f k a b) ?_
  unfold laws_FnExactSignOf.f
  refine ev_bind (spec_SignOf_ev a b) (ev_bind (impl_SignOf_ev a b) ?_)
  exact ev_bind0 (laws_eqIntResult_refl _ _) (ev_if rfl (Ev.now _))

end Go.Proofs.Ytdggjfakhhhbeaa.Pure
